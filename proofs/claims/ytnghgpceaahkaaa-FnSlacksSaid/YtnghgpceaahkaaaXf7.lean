-- Written by a program of this session (wip/gen/xp.py, over the kit's printer). Not trusted: Lean checks it.
import Derived.Test.YtnghgpceaahkaaaX0
import Derived.Test.YtnghgpceaahkaaaXe0
import Derived.Test.YtnghgpceaahkaaaXf4
import Derived.Test.YtnghgpceaahkaaaXf5
import Derived.Test.YtnghgpceaahkaaaXf6
namespace Go.Proofs.Ytnghgpceaahkaaa.X
open Go.RowKit Go.Proofs.YtnghgpceaahkaaaW.PrintWords Go.Proofs.YtnghgpceaahkaaaW.PrintLast Go.Proofs.YtnghgpceaahkaaaW.PrintMore
attribute [local go_sem] max2_int min2_int max_two min_two max_three min_three max_four min_four   -- for this text's walks alone
set_option linter.unusedVariables false
set_option linter.unusedSimpArgs false

attribute [local go_sem high] eqA38
/-! ### spec_SlacksOf: function 7 -/
abbrev q7_0 : Array Bool := ⟨rl_ [22] false⟩
abbrev q7_12 : Array Bool := ⟨rl_ [8, 4, 4, 6] true⟩
abbrev q7_15 : Array Bool := ⟨rl_ [11, 1, 4, 6] true⟩
abbrev q7_17 : Array Bool := ⟨rl_ [17, 5] true⟩
abbrev q7_19 : Array Bool := ⟨rl_ [19, 3] true⟩
abbrev q7_22 : Array Bool := ⟨rl_ [22] true⟩
abbrev q7_23 : Array Bool := ⟨rl_ [14] false⟩
abbrev q7_33 : Array Bool := ⟨rl_ [10, 4] true⟩
abbrev q7_34 : Array Bool := ⟨rl_ [11, 3] true⟩
abbrev q7_35 : Array Bool := ⟨rl_ [12, 2] true⟩
abbrev q7_37 : Array Bool := ⟨rl_ [14] true⟩
mutual
def spec_SlacksOf.j0 : Nat → List (S38) → List Int → Int → Bool → Option (List Int × Bool)
 | 0, _, _, _, _ => none
 | k + 1, x0, x1, x2, x25 => if x25 = true then (some ((([] : List Int)), false)) else (if 0 ≤ (x1.length : Int) then (if ((x1.length : Int) : Int).toNat ≤ 35184372088832 then ((spec_l2Ends.f k x0 x1).bind fun t336 => (spec_SlacksOf.l0 k x0 x1 x2 (List.replicate ((x1.length : Int) : Int).toNat 0) t336 (wrap64 ((x1.length : Int) - 1)))) else (none)) else (none))
def spec_SlacksOf.l0 : Nat → List (S38) → List Int → Int → List Int → List Int → Int → Option (List Int × Bool)
 | 0, _, _, _, _, _, _ => none
 | k + 1, x0, x1, x2, x8, x9, x10 => if x10 ≥ 0 then (if 0 ≤ x10 then (if x10 < (x1.length : Int) then (if 0 ≤ (rd x1 x10) then (if (rd x1 x10) < (x0.length : Int) then (if (rd x1 x10) < (x9.length : Int) then (if x10 < (x8.length : Int) then ((some (x8.set (x10 : Int).toNat (wrap64 ((wrap64 (x2 + ((rd_T38 x0 (rd x1 x10)).f3))) - (rd x9 (rd x1 x10)))) : List Int)).bind fun y343 => (if (wrap64 (x10 + 1)) < (x1.length : Int) then (if 0 ≤ (wrap64 (x10 + 1)) then (if (wrap64 (x10 + 1)) < (x8.length : Int) then ((spec_l1Least.f (rd y343 x10) (rd y343 (wrap64 (x10 + 1)))).bind fun t346 => (spec_SlacksOf.l0 k x0 x1 x2 (y343.set (x10 : Int).toNat t346) x9 (wrap64 (x10 - 1)))) else (none)) else (none)) else (spec_SlacksOf.l0 k x0 x1 x2 y343 x9 (wrap64 (x10 - 1))))) else (none)) else (none)) else (none)) else (none)) else (none)) else (none)) else (some (x8, true))
end
def spec_SlacksOf.f (k : Nat) (l0 : List (S38)) (l1 : List Int) (a2 : Int) : Option (List Int × Bool) := (spec_IsPlain.f k l0).bind fun t327 => (if t327 = true then ((spec_l2Order.f k (l0.length : Int) l1).bind fun t328 => (if t328 = true then ((spec_l1In.f a2 0 500).bind fun t329 => (spec_SlacksOf.j0 k l0 l1 a2 (!t329))) else (spec_SlacksOf.j0 k l0 l1 a2 true))) else (spec_SlacksOf.j0 k l0 l1 a2 true))
theorem spec_SlacksOf.mono_l : ∀ k, (∀ y0 y1 y2 y3, LeO (spec_SlacksOf.j0 k y0 y1 y2 y3) (spec_SlacksOf.j0 (k + 1) y0 y1 y2 y3)) ∧ (∀ y0 y1 y2 y3 y4 y5, LeO (spec_SlacksOf.l0 k y0 y1 y2 y3 y4 y5) (spec_SlacksOf.l0 (k + 1) y0 y1 y2 y3 y4 y5))
 | 0 => ⟨fun _ _ _ _ r h => by simp [spec_SlacksOf.j0] at h, fun _ _ _ _ _ _ r h => by simp [spec_SlacksOf.l0] at h⟩
 | k + 1 => by
  obtain ⟨ih0, ih1⟩ := spec_SlacksOf.mono_l k
  refine ⟨?_, ?_⟩
  ·intro y0 y1 y2 y3
   unfold spec_SlacksOf.j0
   repeat' first
   | (with_reducible exact ih0 _ _ _ _)
   | (with_reducible exact ih1 _ _ _ _ _ _)
   | (with_reducible exact spec_IsPlain.mono _ _)
   | (with_reducible exact spec_l2Ends.mono _ _ _)
   | (with_reducible exact spec_l2Order.mono _ _ _)
   | (with_reducible exact LeO.refl _)
   | (with_reducible exact LeO.none _)
   | (with_reducible refine LeO.ite ?_ ?_)
   | (with_reducible refine LeO.bind ?_ (fun _ => ?_))
   | exact ih0 _ _ _ _
   | exact ih1 _ _ _ _ _ _
   | exact spec_IsPlain.mono _ _
   | exact spec_l2Ends.mono _ _ _
   | exact spec_l2Order.mono _ _ _
   | exact LeO.none _
   | refine LeO.ite ?_ ?_
   | refine LeO.bind ?_ (fun _ => ?_)
  ·intro y0 y1 y2 y3 y4 y5
   unfold spec_SlacksOf.l0
   repeat' first
   | (with_reducible exact ih0 _ _ _ _)
   | (with_reducible exact ih1 _ _ _ _ _ _)
   | (with_reducible exact spec_IsPlain.mono _ _)
   | (with_reducible exact spec_l2Ends.mono _ _ _)
   | (with_reducible exact spec_l2Order.mono _ _ _)
   | (with_reducible exact LeO.refl _)
   | (with_reducible exact LeO.none _)
   | (with_reducible refine LeO.ite ?_ ?_)
   | (with_reducible refine LeO.bind ?_ (fun _ => ?_))
   | exact ih0 _ _ _ _
   | exact ih1 _ _ _ _ _ _
   | exact spec_IsPlain.mono _ _
   | exact spec_l2Ends.mono _ _ _
   | exact spec_l2Order.mono _ _ _
   | exact LeO.none _
   | refine LeO.ite ?_ ?_
   | refine LeO.bind ?_ (fun _ => ?_)
theorem spec_SlacksOf.mono : ∀ a0 a1 a2 k, LeO (spec_SlacksOf.f k a0 a1 a2) (spec_SlacksOf.f (k + 1) a0 a1 a2) := by
 intro a0 a1 a2 k
 obtain ⟨ih0, ih1⟩ := spec_SlacksOf.mono_l k
 unfold spec_SlacksOf.f
 repeat' first
   | (with_reducible exact ih0 _ _ _ _)
   | (with_reducible exact ih1 _ _ _ _ _ _)
   | (with_reducible exact spec_IsPlain.mono _ _)
   | (with_reducible exact spec_l2Ends.mono _ _ _)
   | (with_reducible exact spec_l2Order.mono _ _ _)
   | (with_reducible exact LeO.refl _)
   | (with_reducible exact LeO.none _)
   | (with_reducible refine LeO.ite ?_ ?_)
   | (with_reducible refine LeO.bind ?_ (fun _ => ?_))
   | exact ih0 _ _ _ _
   | exact ih1 _ _ _ _ _ _
   | exact spec_IsPlain.mono _ _
   | exact spec_l2Ends.mono _ _ _
   | exact spec_l2Order.mono _ _ _
   | exact LeO.none _
   | refine LeO.ite ?_ ?_
   | refine LeO.bind ?_ (fun _ => ?_)
def spec_SlacksOf.T8 : Bool × List (List Nat × List Nat) := (true, [([], []), ([], []), ([], []), ([], []), ([], []), ([], []), ([4, 5], [4, 5]), ([6], [6]), ([3, 7], [3, 7]), ([8], [8]), ([9], [9]), ([2, 10], [2, 10]), ([], []), ([], []), ([], []), ([13, 14], [13, 14]), ([15], [15]), ([12, 16], [12, 16]), ([17], [17]), ([11, 18], [11, 18]), ([0, 1, 0, 1, 2, 3, 4, 5, 6, 7, 8, 9, 10, 11, 12, 13, 14, 15, 16, 17, 18, 19], [0, 1]), ([20, 19, 0, 1, 2, 3, 4, 5, 6, 7, 8, 9, 10, 11, 12, 13, 14, 15, 16, 17, 18, 19], [19, 20])])
def spec_SlacksOf.B8 : List Nat := [0, 0, 0, 0, 0, 0, 48, 112, 248, 504, 1016, 2044, 0, 0, 0, 24576, 57344, 126976, 258048, 524284, 1048575, 2097151]
theorem spec_SlacksOf.tab8 : rtab .any (opsOf Try.f7 8) = spec_SlacksOf.T8 := by kernel_rfl
theorem spec_SlacksOf.bits8 : waitsOk spec_SlacksOf.T8.2 spec_SlacksOf.B8 = true := by kernel_rfl
def spec_SlacksOf.T10 : Bool × List (List Nat × List Nat) := (true, [([], []), ([], []), ([], []), ([], []), ([2, 3], [2, 3]), ([4], [4]), ([], []), ([], []), ([7], [7]), ([6, 8], [6, 8]), ([9], [9]), ([5, 10], [5, 10]), ([0, 1, 0, 1, 2, 3, 4, 5, 6, 7, 8, 9, 10, 11], [0, 1]), ([12, 11, 11, 0, 1, 2, 3, 4, 5, 6, 7, 8, 9, 10, 11], [11, 12])])
def spec_SlacksOf.B10 : List Nat := [0, 0, 0, 0, 12, 28, 0, 0, 128, 448, 960, 2044, 4095, 8191]
theorem spec_SlacksOf.tab10 : rtab .any (opsOf Try.f7 10) = spec_SlacksOf.T10 := by kernel_rfl
theorem spec_SlacksOf.bits10 : waitsOk spec_SlacksOf.T10.2 spec_SlacksOf.B10 = true := by kernel_rfl
set_option maxHeartbeats 8000000 in
set_option maxRecDepth 100000 in
theorem spec_SlacksOf.calls (k : Nat) (A0 : Option Addr) (c0 : Nat) (l0 : List (S38)) (A1 : Option Addr) (c1 : Nat) (l1 : List Int) (a2 : Int) (r1 : List Int) (r2 : Bool) (w : World) (hr0 : Kd.C k38 w A0 l0.length l0) (hc0 : l0.length ≤ c0) (hr1 : Kd.C (Kd.int .i64) w A1 l1.length l1) (hc1 : l1.length ≤ c1) (h : spec_SlacksOf.f k l0 l1 a2 = some (r1, r2)) :
  Calls Try.prog 7 #[.slice A0 l0.length c0, .slice A1 l1.length c1, .int .i64 a2] w fun e w' => ∃ v0_ : Value, e = .returned (.tuple #[v0_, .bool r2]) ∧ Kd.R (Kd.int .i64) 3 w' w.heap.size (fun _ => True) v0_ r1 ∧ Below w.heap.size w w' := by
 have HR0 := Aside0.mk hr0
 have HC0 := Aside0.mk hc0
 clear hr0 hc0
 have HR1 := Aside0.mk hr1
 have HC1 := Aside0.mk hc1
 clear hr1 hc1
 have HB := Aside0.mk (Below.refl w.heap.size w)
 have H : ((spec_IsPlain.f k l0).bind fun t327 => (if t327 = true then ((spec_l2Order.f k (l0.length : Int) l1).bind fun t328 => (if t328 = true then ((spec_l1In.f a2 0 500).bind fun t329 => (spec_SlacksOf.j0 k l0 l1 a2 (!t329))) else (spec_SlacksOf.j0 k l0 l1 a2 true))) else (spec_SlacksOf.j0 k l0 l1 a2 true))) = some (r1, r2) := h
 clear h
 have HC4 := Aside0.mk H
 clear H
 go_enter Try.func7, Try.ntmps7
 go_upto_region 1 with (fail)
 go_cut [25] (fun v25 wc => ∃ (kq : Nat) (x25_3 : Bool), v25 = .bool x25_3 ∧ Aside0 (spec_SlacksOf.j0 kq l0 l1 a2 x25_3 = some (r1, r2)) ∧ Aside0 (kq ≤ k) ∧ Aside0 (Below w.heap.size w wc))
 case first =>
  have H := HC4.out
  clear HC4
  replace H := Option.bind_eq_some_iff.mp H
  obtain ⟨t327, A50, H⟩ := H
  replace H : (if t327 = true then ((spec_l2Order.f k (l0.length : Int) l1).bind fun t328 => (if t328 = true then ((spec_l1In.f a2 0 500).bind fun t329 => (spec_SlacksOf.j0 k l0 l1 a2 (!t329))) else (spec_SlacksOf.j0 k l0 l1 a2 true))) else (spec_SlacksOf.j0 k l0 l1 a2 true)) = some (r1, r2) := H
  have A5 := Aside0.mk A50
  clear A50
  by_cases c6 : t327 = true
  rotate_left
  ·replace c6 := Bool.eq_false_iff.mpr c6
   subst c6
   have H1 : (spec_SlacksOf.j0 k l0 l1 a2 true) = some (r1, r2) := by rw [if_neg (show ¬ (false = true) by decide)] at H; exact H
   clear H
   have H := H1
   clear H1
   have H' := Aside0.mk H
   clear H
   go_wp2_with (first | ((with_reducible refine gate_callee (f := 23) rfl ?_); refine goesL_ (some 12) rfl rfl Try.func23 (by kernel_rfl) rfl #[.slice A0 l0.length c0] rfl (by (try simp only [mA_]); first | done | rfl | (simp only [List.length_drop, List.length_take]; rfl)) ?_; (with_reducible refine (spec_IsPlain.calls k _ _ l0 false _ ?side1 ?side2 A5.out).mono ?_); (case side1 => first | exact bC HR0.out HB.out | exact Kd.C_below HR0.out HB.out); (case side2 => exact HC0.out); rintro e w12 ⟨rfl, hb⟩; refine ⟨_, rfl, ?_⟩; have n0_ := Aside0.mk (below_step (bw HB.out) hb); replace HB := n0_; clear n0_; (try clear hb); (try clear hb2); (try clear hk); (try clear hi)))
   go_meet
   case rel => exact ⟨_, (true), (by first | rfl | (simp; done) | (simp [*]; done)), H', ⟨by first | omega | exact Nat.le_refl _⟩, ⟨bw HB.out⟩⟩
  subst c6
  have H1 : ((spec_l2Order.f k (l0.length : Int) l1).bind fun t328 => (if t328 = true then ((spec_l1In.f a2 0 500).bind fun t329 => (spec_SlacksOf.j0 k l0 l1 a2 (!t329))) else (spec_SlacksOf.j0 k l0 l1 a2 true))) = some (r1, r2) := by rw [if_pos rfl] at H; exact H
  clear H
  have H := H1
  clear H1
  replace H := Option.bind_eq_some_iff.mp H
  obtain ⟨t328, A70, H⟩ := H
  replace H : (if t328 = true then ((spec_l1In.f a2 0 500).bind fun t329 => (spec_SlacksOf.j0 k l0 l1 a2 (!t329))) else (spec_SlacksOf.j0 k l0 l1 a2 true)) = some (r1, r2) := H
  have A7 := Aside0.mk A70
  clear A70
  by_cases c8 : t328 = true
  rotate_left
  ·replace c8 := Bool.eq_false_iff.mpr c8
   subst c8
   have H1 : (spec_SlacksOf.j0 k l0 l1 a2 true) = some (r1, r2) := by rw [if_neg (show ¬ (false = true) by decide)] at H; exact H
   clear H
   have H := H1
   clear H1
   have H' := Aside0.mk H
   clear H
   go_wp2_with (first | ((with_reducible refine gate_callee (f := 23) rfl ?_); refine goesL_ (some 12) rfl rfl Try.func23 (by kernel_rfl) rfl #[.slice A0 l0.length c0] rfl (by (try simp only [mA_]); first | done | rfl | (simp only [List.length_drop, List.length_take]; rfl)) ?_; (with_reducible refine (spec_IsPlain.calls k _ _ l0 true _ ?side1 ?side2 A5.out).mono ?_); (case side1 => first | exact bC HR0.out HB.out | exact Kd.C_below HR0.out HB.out); (case side2 => exact HC0.out); rintro e w11 ⟨rfl, hb⟩; refine ⟨_, rfl, ?_⟩; have n0_ := Aside0.mk (below_step (bw HB.out) hb); replace HB := n0_; clear n0_; (try clear hb); (try clear hb2); (try clear hk); (try clear hi)) | (go_at_call 24; (with_reducible refine (spec_l2Order.calls k (l0.length : Int) _ _ l1 false _ ?side1 ?side2 A7.out).mono ?_); (case side1 => first | exact bC HR1.out HB.out | exact Kd.C_below HR1.out HB.out); (case side2 => exact HC1.out); rintro e w' ⟨rfl, ⟨nd, rfl⟩⟩))
   go_meet
   case rel => exact ⟨_, (true), (by first | rfl | (simp; done) | (simp [*]; done)), H', ⟨by first | omega | exact Nat.le_refl _⟩, ⟨bw HB.out⟩⟩
  subst c8
  have H1 : ((spec_l1In.f a2 0 500).bind fun t329 => (spec_SlacksOf.j0 k l0 l1 a2 (!t329))) = some (r1, r2) := by rw [if_pos rfl] at H; exact H
  clear H
  have H := H1
  clear H1
  replace H := Option.bind_eq_some_iff.mp H
  obtain ⟨t329, A90, H⟩ := H
  replace H : (spec_SlacksOf.j0 k l0 l1 a2 (!t329)) = some (r1, r2) := H
  have A9 := Aside0.mk A90
  clear A90
  have H' := Aside0.mk H
  clear H
  go_wp2_with (first | ((with_reducible refine gate_callee (f := 23) rfl ?_); refine goesL_ (some 12) rfl rfl Try.func23 (by kernel_rfl) rfl #[.slice A0 l0.length c0] rfl (by (try simp only [mA_]); first | done | rfl | (simp only [List.length_drop, List.length_take]; rfl)) ?_; (with_reducible refine (spec_IsPlain.calls k _ _ l0 true _ ?side1 ?side2 A5.out).mono ?_); (case side1 => first | exact bC HR0.out HB.out | exact Kd.C_below HR0.out HB.out); (case side2 => exact HC0.out); rintro e w10 ⟨rfl, hb⟩; refine ⟨_, rfl, ?_⟩; have n0_ := Aside0.mk (below_step (bw HB.out) hb); replace HB := n0_; clear n0_; (try clear hb); (try clear hb2); (try clear hk); (try clear hi)) | (go_at_call 24; (with_reducible refine (spec_l2Order.calls k (l0.length : Int) _ _ l1 true _ ?side1 ?side2 A7.out).mono ?_); (case side1 => first | exact bC HR1.out HB.out | exact Kd.C_below HR1.out HB.out); (case side2 => exact HC1.out); rintro e w' ⟨rfl, ⟨nd, rfl⟩⟩) | (go_at_call 25; (with_reducible refine (spec_l1In.calls a2 0 500 t329 _ A9.out).mono ?_); rintro e w' ⟨rfl, ⟨nd, rfl⟩⟩))
  go_meet
  case rel => exact ⟨_, (!t329), (by first | rfl | (simp; done) | (simp [*]; done)), H', ⟨by first | omega | exact Nat.le_refl _⟩, ⟨bw HB.out⟩⟩
 case rest =>
  clear HC4
  try clear c1
  try clear c2
  try clear p2
  try clear c6
  try clear c7
  try clear c8
  obtain ⟨kq, x25_3, rfl, HA, HJ3, HB⟩ := hcut
  cases kq with
  | zero => exact absurd HA.out (by simp [spec_SlacksOf.j0])
  | succ kj3 =>
   have H := HA.out
   clear HA
   simp only [spec_SlacksOf.j0] at H
   by_cases c13 : x25_3 = true
   ·subst c13
    have H1 : (some ((([] : List Int)), false)) = some (r1, r2) := by rw [if_pos rfl] at H; exact H
    clear H
    have H := H1
    clear H1
    obtain ⟨y330, hy330⟩ : ∃ y_ : List Int, y_ = (([] : List Int)) := ⟨_, rfl⟩
    replace H : (some (y330, false)) = some (r1, r2) := by first | (rw [hy330]; with_reducible exact H) | (have H2_ := (Option.bind_some _ _).symm.trans H; rw [hy330]; with_reducible exact H2_) | (have H2_ := (Option.bind_some _ _).symm.trans H; with_reducible exact H2_) | with_reducible exact H | (rw [hy330]; exact H) | exact H
    have Ny330 := Aside0.mk hy330
    clear hy330
    simp only [Option.some.injEq, Prod.mk.injEq] at H
    obtain ⟨rfl, rfl⟩ := H
    go_wp2_with (first | ((with_reducible refine gate_dst (N := 26) rfl ?_); (try (refine gate_guard (by rfl) ?_; dsimp only)); refine Kd.R_lit (Kd.int .i64) _ 3 ?hg (N := 26) ?hd (xs := ([] : List Int)) (inner := []) (ok := fun _ => True) (okp := fun _ => True) ?hr ?hp (fun _ hk => hk) trivial (Below.refl _ _) (Nat.le_refl _) (by simp) ?_; (case hd => rfl); (case hg => rfl); (case hr => first | (go_simp; done) | (go_simp; rfl)); (case hp => exact (Reps.none _ _)); intro v331 w14 ho15 hb hg_ hnew_; clear hg_ hnew_; (first | rw [← Ny330.out] at ho15 | (simp only [Int.reduceToNat] at ho15; rw [← Ny330.out] at ho15)); have n0_ := Aside0.mk (Kd.R_lower ho15 (below_size (bw HB.out))); have n1_ := Aside0.mk (below_step (bw HB.out) hb); have HO332 := n0_; replace HB := n1_; clear n0_ n1_; clear hb ho15))
    go_ret2
    exact ⟨_, by first | rfl | (simp [errW_none, errW_some] <;> rfl) | (simp [*, errW_none, errW_some] <;> rfl), by (with_reducible repeat (first | apply Kd.R_alloc | apply Kd.R_drewN | apply Kd.R_drew)); exact HO332.out, bw HB.out⟩
   replace c13 := Bool.eq_false_iff.mpr c13
   subst c13
   have H1 : (if 0 ≤ (l1.length : Int) then (if ((l1.length : Int) : Int).toNat ≤ 35184372088832 then ((spec_l2Ends.f kj3 l0 l1).bind fun t336 => (spec_SlacksOf.l0 kj3 l0 l1 a2 (List.replicate ((l1.length : Int) : Int).toNat 0) t336 (wrap64 ((l1.length : Int) - 1)))) else (none)) else (none)) = some (r1, r2) := by rw [if_neg (show ¬ (false = true) by decide)] at H; exact H
   clear H
   have H := H1
   clear H1
   by_cases c16 : 0 ≤ (l1.length : Int)
   rotate_left
   ·rw [if_neg c16] at H
    exact absurd H (by simp)
   rw [if_pos c16] at H
   have c16b0 := eq_true c16
   have c16b1 : decide (0 ≤ (l1.length : Int)) = true := decide_eq_true c16
   clear c16
   by_cases c17 : ((l1.length : Int) : Int).toNat ≤ 35184372088832
   rotate_left
   ·rw [if_neg c17] at H
    exact absurd H (by simp)
   rw [if_pos c17] at H
   have c17b0 := eq_true c17
   have c17b1 : decide (((l1.length : Int) : Int).toNat ≤ 35184372088832) = true := decide_eq_true c17
   clear c17
   obtain ⟨y333, hy333⟩ : ∃ y_ : List Int, y_ = (List.replicate ((l1.length : Int) : Int).toNat 0) := ⟨_, rfl⟩
   replace H : ((spec_l2Ends.f kj3 l0 l1).bind fun t336 => (spec_SlacksOf.l0 kj3 l0 l1 a2 y333 t336 (wrap64 ((l1.length : Int) - 1)))) = some (r1, r2) := by first | (rw [hy333]; with_reducible exact H) | (have H2_ := (Option.bind_some _ _).symm.trans H; rw [hy333]; with_reducible exact H2_) | (have H2_ := (Option.bind_some _ _).symm.trans H; with_reducible exact H2_) | with_reducible exact H | (rw [hy333]; exact H) | exact H
   have Ny333 := Aside0.mk hy333
   clear hy333
   replace H := Option.bind_eq_some_iff.mp H
   obtain ⟨t336, A180, H⟩ := H
   replace H : (spec_SlacksOf.l0 kj3 l0 l1 a2 y333 t336 (wrap64 ((l1.length : Int) - 1))) = some (r1, r2) := H
   have A18 := Aside0.mk A180
   clear A180
   have H' := Aside0.mk H
   clear H
   go_wp2_with (first | ((with_reducible refine gate_dst (N := 29) rfl ?_); (try (refine gate_guard (by rfl) ?_; dsimp only)); refine Kd.R_make (Kd.int .i64) _ 3 rfl (N := 29) rfl 25 _ _ rfl (l1.length : Int) rfl rfl Try.underlying25 (.int .i64 0) 8 info3 rfl (by decide) (by omega) 0 (ok := fun _ => True) (okp := fun _ => True) rfl (fun _ hk => hk) trivial (of_decide_eq_true (by first | (with_reducible assumption) | assumption)) (Nat.le_trans (Nat.mul_le_mul_right _ (of_decide_eq_true (by first | (with_reducible assumption) | assumption) : (l1.length : Int).toNat ≤ 35184372088832)) (by omega)) (Below.refl _ _) (Nat.le_refl _) ?_; intro v334 w19 ho20 hb hg_ hnew_; clear hg_ hnew_; (first | rw [← Ny333.out] at ho20 | (simp only [Int.reduceToNat] at ho20; rw [← Ny333.out] at ho20)); have n0_ := Aside0.mk (Kd.R_lower ho20 (below_size (bw HB.out))); have n1_ := Aside0.mk (below_step (bw HB.out) hb); have HO335 := n0_; replace HB := n1_; clear n0_ n1_; clear hb ho20) | ((with_reducible refine gate_callee (f := 26) rfl ?_); refine goesL_ (some 32) rfl rfl Try.func26 (by kernel_rfl) rfl #[.slice A0 l0.length c0, .slice A1 l1.length c1] rfl (by (try simp only [mA_]); first | done | rfl | (simp only [List.length_drop, List.length_take]; rfl)) ?_; (with_reducible refine (spec_l2Ends.calls kj3 _ _ l0 _ _ l1 t336 _ ?side1 ?side2 ?side3 ?side4 A18.out).mono ?_); (case side1 => first | exact bC HR0.out HB.out | exact Kd.C_below HR0.out HB.out); (case side2 => exact HC0.out); (case side3 => first | exact bC HR1.out HB.out | exact Kd.C_below HR1.out HB.out); (case side4 => exact HC1.out); rintro e w21 ⟨v337, rfl, ho0, hb⟩; refine ⟨_, rfl, ?_⟩; have n0_ := Aside0.mk (Kd.R_elder' (bR HO335.out) (Kd.R_base ho0) hb); have n1_ := Aside0.mk (Kd.R_lower (Kd.R_new' ho0 (Kd.R_lt (bR HO335.out))) (below_size (bw HB.out))); have n2_ := Aside0.mk (below_step (bw HB.out) hb); replace HO335 := n0_; have HO338 := n1_; replace HB := n2_; clear n0_ n1_ n2_; (try clear hb); (try clear hb2); (try clear hk); (try clear hi); (try clear ho0)))
   go_loopg [10] kj3 (fun kq v10 w' => ∃ (x8_2 : List Int) (x10_2 : Int), v10 = .int .i64 x10_2 ∧ Aside0 (spec_SlacksOf.l0 kq l0 l1 a2 x8_2 t336 x10_2 = some (r1, r2)) ∧ Aside0 (kq ≤ kj3) ∧ Aside0 (Kd.R (Kd.int .i64) 3 w' w.heap.size (fun k_ => some k_ ≠ (v337 : Value).ownBlock) v334 x8_2) ∧ Aside0 (Kd.R (Kd.int .i64) 3 w' w.heap.size (fun k_ => some k_ ≠ (v334 : Value).ownBlock) v337 t336) ∧ Aside0 (Below w.heap.size w w'))
   case atStart => exact ⟨(y333), (wrap64 ((l1.length : Int) - 1)), (by first | rfl | (simp; done) | (simp [*]; done)), H', ⟨Nat.le_refl _⟩, ⟨by (with_reducible repeat (first | apply Kd.R_alloc | apply Kd.R_drewN | apply Kd.R_drew)); exact Kd.R_mono HO335.out (fun _ hk => hk.2)⟩, ⟨by (with_reducible repeat (first | apply Kd.R_alloc | apply Kd.R_drewN | apply Kd.R_drew)); exact Kd.R_mono HO338.out (fun _ hk => hk.2)⟩, ⟨bw HB.out⟩⟩
   case round =>
    clear H'
    try clear c1
    try clear c2
    try clear p2
    try clear c6
    try clear p6
    try clear c7
    try clear c8
    try clear c13
    try clear c16
    try clear c16b0
    try clear c16b1
    try clear c17
    try clear c17b0
    try clear c17b1
    try clear p2
    obtain ⟨x8_2, x10_2, rfl, HA, HK2, HO_8, HO_9, HB⟩ := hrel
    cases gk with
    | zero => exact absurd HA.out (by simp [spec_SlacksOf.l0])
    | succ k2 =>
     have H := HA.out
     clear HA
     simp only [spec_SlacksOf.l0] at H
     by_cases c22 : x10_2 ≥ 0
     rotate_left
     ·rw [if_neg c22] at H
      have c22b0 : decide (0 ≤ x10_2) = false := decide_eq_false c22
      clear c22
      simp only [Option.some.injEq, Prod.mk.injEq] at H
      obtain ⟨rfl, rfl⟩ := H
      go_wp2
      go_ret2
      exact ⟨_, by first | rfl | (simp [errW_none, errW_some] <;> rfl) | (simp [*, errW_none, errW_some] <;> rfl), by (with_reducible repeat (first | apply Kd.R_alloc | apply Kd.R_drewN | apply Kd.R_drew)); exact Kd.R_mono HO_8.out (fun _ hk => trivial), bw HB.out⟩
     rw [if_pos c22] at H
     have c22b0 : decide (0 ≤ x10_2) = true := decide_eq_true c22
     clear c22
     by_cases c23 : 0 ≤ x10_2
     rotate_left
     ·rw [if_neg c23] at H
      exact absurd H (by simp)
     rw [if_pos c23] at H
     have c23b0 : decide (0 ≤ x10_2) = true := decide_eq_true c23
     clear c23
     by_cases c24 : x10_2 < (l1.length : Int)
     rotate_left
     ·rw [if_neg c24] at H
      exact absurd H (by simp)
     rw [if_pos c24] at H
     have c24b0 : decide (x10_2 < (l1.length : Int)) = true := decide_eq_true c24
     clear c24
     by_cases c25 : 0 ≤ (rd l1 x10_2)
     rotate_left
     ·rw [if_neg c25] at H
      exact absurd H (by simp)
     rw [if_pos c25] at H
     have c25b0 : decide (0 ≤ (rd l1 x10_2)) = true := decide_eq_true c25
     clear c25
     by_cases c26 : (rd l1 x10_2) < (l0.length : Int)
     rotate_left
     ·rw [if_neg c26] at H
      exact absurd H (by simp)
     rw [if_pos c26] at H
     have c26b0 : decide ((rd l1 x10_2) < (l0.length : Int)) = true := decide_eq_true c26
     clear c26
     by_cases c27 : (rd l1 x10_2) < (t336.length : Int)
     rotate_left
     ·rw [if_neg c27] at H
      exact absurd H (by simp)
     rw [if_pos c27] at H
     have c27b0 : decide ((rd l1 x10_2) < (t336.length : Int)) = true := decide_eq_true c27
     clear c27
     by_cases c28 : x10_2 < (x8_2.length : Int)
     rotate_left
     ·rw [if_neg c28] at H
      exact absurd H (by simp)
     rw [if_pos c28] at H
     have c28b0 : decide (x10_2 < (x8_2.length : Int)) = true := decide_eq_true c28
     clear c28
     obtain ⟨y343, hy343⟩ : ∃ y_ : List Int, y_ = (x8_2.set (x10_2 : Int).toNat (wrap64 ((wrap64 (a2 + ((rd_T38 l0 (rd l1 x10_2)).f3))) - (rd t336 (rd l1 x10_2))))) := ⟨_, rfl⟩
     replace H : (if (wrap64 (x10_2 + 1)) < (l1.length : Int) then (if 0 ≤ (wrap64 (x10_2 + 1)) then (if (wrap64 (x10_2 + 1)) < (x8_2.length : Int) then ((spec_l1Least.f (rd y343 x10_2) (rd y343 (wrap64 (x10_2 + 1)))).bind fun t346 => (spec_SlacksOf.l0 k2 l0 l1 a2 (y343.set (x10_2 : Int).toNat t346) t336 (wrap64 (x10_2 - 1)))) else (none)) else (none)) else (spec_SlacksOf.l0 k2 l0 l1 a2 y343 t336 (wrap64 (x10_2 - 1)))) = some (r1, r2) := by first | (rw [hy343]; with_reducible exact H) | (have H2_ := (Option.bind_some _ _).symm.trans H; rw [hy343]; with_reducible exact H2_) | (have H2_ := (Option.bind_some _ _).symm.trans H; with_reducible exact H2_) | with_reducible exact H | (rw [hy343]; exact H) | exact H
     have Ny343 := Aside0.mk hy343
     clear hy343
     by_cases c30 : (wrap64 (x10_2 + 1)) < (l1.length : Int)
     rotate_left
     ·rw [if_neg c30] at H
      have c30b0 : decide ((wrap64 (x10_2 + 1)) < (l1.length : Int)) = false := decide_eq_false c30
      clear c30
      have H' := Aside0.mk H
      clear H
      try go_wp2
      have n0_ := Aside0.mk (Kd.R_drew HO_8.out)
      have n1_ := Aside0.mk (Kd.R_drew HO_9.out)
      have n2_ := Aside0.mk (below_drew1 HB.out)
      replace HO_8 := n0_
      replace HO_9 := n1_
      replace HB := n2_
      clear n0_ n1_ n2_
      have p339 : 0 ≤ (x10_2 : Int) := of_decide_eq_true (by first | (with_reducible assumption) | assumption)
      have q339 : x10_2 < (l1.length : Int) := of_decide_eq_true (by first | (with_reducible assumption) | assumption)
      obtain ⟨ad339, e339, hx339_0⟩ := Kd.at_int HR1.out x10_2 p339 q339
      have hw339_0 := hx339_0
      cases e339
      replace hx339_0 := (HB.out.cell (World.block_lt_of_cell? w _ hx339_0)).trans hx339_0
      replace p339 := eq_true p339
      replace q339 := eq_true q339
      have p340 : 0 ≤ ((rd l1 x10_2) : Int) := of_decide_eq_true (by first | (with_reducible assumption) | assumption)
      have q340 : (rd l1 x10_2) < (l0.length : Int) := of_decide_eq_true (by first | (with_reducible assumption) | assumption)
      obtain ⟨ad340, e340, hx340_0, hx340_1, hx340_2, hx340_3⟩ := at_T38 HR0.out (rd l1 x10_2) p340 q340
      have hw340_3 := hx340_3
      have hw340_2 := hx340_2
      have hw340_1 := hx340_1
      have hw340_0 := hx340_0
      cases e340
      replace hx340_0 := (HB.out.cell (World.block_lt_of_cell? w _ hx340_0)).trans hx340_0
      replace hx340_1 := (HB.out.cell (World.block_lt_of_cell? w _ hx340_1)).trans hx340_1
      replace hx340_2 := (HB.out.cell (World.block_lt_of_cell? w _ hx340_2)).trans hx340_2
      replace hx340_3 := (HB.out.cell (World.block_lt_of_cell? w _ hx340_3)).trans hx340_3
      replace p340 := eq_true p340
      replace q340 := eq_true q340
      have p341 : 0 ≤ (x10_2 : Int) := of_decide_eq_true (by first | (with_reducible assumption) | assumption)
      have q341 : x10_2 < (l1.length : Int) := of_decide_eq_true (by first | (with_reducible assumption) | assumption)
      obtain ⟨ad341, e341, hx341_0⟩ := Kd.at_int HR1.out x10_2 p341 q341
      have hw341_0 := hx341_0
      obtain rfl : ad339 = ad341 := (by injection e341)
      replace hx341_0 := (HB.out.cell (World.block_lt_of_cell? w _ hx341_0)).trans hx341_0
      replace p341 := eq_true p341
      replace q341 := eq_true q341
      obtain ⟨Ao43, co43, eo43⟩ := Kd.R_slice HO_9.out
      (first | subst eo43 | (injection eo43 with f1_ f2_ f3_; have f4_ := f1_.symm; have f5_ := f3_.symm; clear f1_ f2_ f3_; subst f4_; subst f5_))
      have p342 : 0 ≤ ((rd l1 x10_2) : Int) := of_decide_eq_true (by first | (with_reducible assumption) | assumption)
      have q342 : (rd l1 x10_2) < (t336.length : Int) := of_decide_eq_true (by first | (with_reducible assumption) | assumption)
      obtain ⟨ad342, e342, hx342_0⟩ := Kd.at_int (Kd.R_reads' HO_9.out).2.2 (rd l1 x10_2) p342 q342
      cases e342
      replace p342 := eq_true p342
      replace q342 := eq_true q342
      have p29 : 0 ≤ (x10_2 : Int) := of_decide_eq_true (by first | (with_reducible assumption) | assumption)
      have q29 : (x10_2 : Int) < ((x8_2.length : Int) : Int) := of_decide_eq_true (by first | (with_reducible assumption) | assumption)
      obtain ⟨go29, co29, eo29, gb29, gl29, cl29, HG29⟩ := Kd.R_form HO_8.out (by omega)
      (first | cases eo29 | (injection eo29 with ea_ en_ ec_; (first | subst ea_ | (injection ea_ with ea_; subst ea_)); subst ec_; clear en_))
      have GB29 := Aside0.mk gb29
      have GG29 := Aside0.mk HG29
      clear gb29 gl29 HG29
      obtain ⟨hx29_0, hf29_0⟩ := Kd.R_celln 0 HO_8.out (x10_2 : Int) p29 q29
      replace p29 := eq_true p29
      replace q29 := eq_true q29
      have HP44 := Kd.R_putn HO_8.out (x10_2 : Int) (wrap64 ((wrap64 (a2 + ((rd_T38 l0 (rd l1 x10_2)).f3))) - (rd t336 (rd l1 x10_2))))
      rw [← Ny343.out] at HP44
      have HQ44 := Aside0.mk HP44
      clear HP44
      refine start_ (n := 22) (S := fun w' => w'.cell? (ad339.add (x10_2).toNat) = some (.int .i64 (rd l1 x10_2)) ∧ w'.cell? (ad340.add (((rd l1 x10_2)).toNat * 4)) = some (.int .i64 ((rd_T38 l0 (rd l1 x10_2)).f0)) ∧ w'.cell? ⟨(ad340.add (((rd l1 x10_2)).toNat * 4)).block, (ad340.add (((rd l1 x10_2)).toNat * 4)).off + 1, none⟩ = some (.int .i64 ((rd_T38 l0 (rd l1 x10_2)).f1)) ∧ w'.cell? ⟨(ad340.add (((rd l1 x10_2)).toNat * 4)).block, (ad340.add (((rd l1 x10_2)).toNat * 4)).off + 2, none⟩ = some (.int .i64 ((rd_T38 l0 (rd l1 x10_2)).f2)) ∧ w'.cell? ⟨(ad340.add (((rd l1 x10_2)).toNat * 4)).block, (ad340.add (((rd l1 x10_2)).toNat * 4)).off + 3, none⟩ = some (.int .i64 ((rd_T38 l0 (rd l1 x10_2)).f3)) ∧ w'.cell? (ad339.add (x10_2).toNat) = some (.int .i64 (rd l1 x10_2)) ∧ w'.cell? (ad342.add ((rd l1 x10_2)).toNat) = some (.int .i64 (rd t336 (rd l1 x10_2)))) (ds := [21]) q7_0 (by kernel_rfl) rfl rfl ⟨(bcl_ HB.out hw339_0 :), (bcl_ HB.out hw340_0 :), (bcl_ HB.out hw340_1 :), (bcl_ HB.out hw340_2 :), (bcl_ HB.out hw340_3 :), (bcl_ HB.out hw341_0 :), hx342_0⟩ (fun hHeld => ?_); refine with_tabW spec_SlacksOf.tab8 spec_SlacksOf.bits8 (fun HT_ HW_ => ?_)
      generalize wr.drew = w42 at HO_8 HO_9 HB GG29 HQ44 hf29_0 hx29_0 hx339_0 hx340_0 hx340_1 hx340_2 hx340_3 hx341_0 hx342_0 hHeld ⊢
      refine pup_ (i := 0) (N := some 40) HT_ rfl rfl (by kernel_rfl) (fun _ _ _ h => h) (Or.inl ⟨by rfl, by intro w'; go_simp; with_reducible rfl⟩) (by simp only [aq_]; rfl) ?_
      refine pup_ (i := 1) (N := some 41) HT_ rfl rfl (by kernel_rfl) (fun _ _ _ h => h) (Or.inl ⟨by rfl, by intro w'; go_simp; with_reducible rfl⟩) (by simp only [aq_]; rfl) ?_
      refine pup_ (i := 2) (N := some 42) HT_ rfl rfl (by kernel_rfl) (fun _ _ _ h => h) (Or.inl ⟨by rfl, by intro w'; go_simp; with_reducible rfl⟩) (by simp only [aq_]; rfl) ?_
      refine pup_ (i := 3) (N := some 43) HT_ rfl rfl (by kernel_rfl) (fun _ _ _ h => h) (Or.inl ⟨by rfl, by intro w'; go_simp; with_reducible rfl⟩) (by simp only [aq_]; rfl) ?_
      refine pup_ (i := 4) (N := some 44) HT_ rfl rfl (by kernel_rfl) (fun _ _ _ h => h) (Or.inl ⟨by rfl, by intro w'; go_simp; with_reducible rfl⟩) (by simp only [aq_]; rfl) ?_
      refine pup_ (i := 5) (N := some 45) HT_ rfl rfl (by kernel_rfl) (fun _ _ _ h => h) (Or.inl ⟨by rfl, by intro w'; go_simp; with_reducible rfl⟩) (by simp only [aq_]; rfl) ?_
      refine pup_ (i := 6) (N := some 46) HT_ rfl rfl (by kernel_rfl) (fun _ _ _ h => h) (Or.inl ⟨by rfl, by intro w'; go_simp; with_reducible rfl⟩) (by simp only [aq_]; rfl) ?_
      refine pup_ (i := 12) (N := some 52) HT_ rfl rfl (by kernel_rfl) (fun _ _ _ h => h) (Or.inl ⟨by rfl, by intro w'; go_simp; with_reducible rfl⟩) (by simp only [aq_]; rfl) ?_
      refine pup_ (i := 13) (N := some 53) HT_ rfl rfl (by kernel_rfl) (fun _ _ _ h => h) (Or.inl ⟨by rfl, by intro w'; go_simp; with_reducible rfl⟩) (by simp only [aq_]; rfl) ?_
      refine pup_ (i := 14) (N := some 54) HT_ rfl rfl (by kernel_rfl) (fun _ _ _ h => h) (Or.inl ⟨by rfl, by intro w'; go_simp; with_reducible rfl⟩) (by simp only [aq_]; rfl) ?_
      refine pup_ (i := 15) (N := some 55) HT_ rfl rfl (by kernel_rfl) (fun _ _ _ h => h) (Or.inl ⟨by rfl, by intro w'; go_simp; with_reducible rfl⟩) (by simp only [aq_]; rfl) ?_
      refine take_ (i := 7) (N := some 47) (v := ?_) (a' := ?_) q7_12 rfl rfl (take_ofW HT_.out HW_.out (by kernel_rfl)) (fun _ _ _ h => h) (Or.inl ⟨by rfl, ?_⟩) hHeld ?_ ?_
      rotate_left
      ·rintro w' ⟨s0, s1, s2, s3, s4, s5, s6⟩
       go_simp
       with_reducible rfl
      rotate_left
      ·simp only [aq_]
       rfl
      refine pup_ (i := 8) (N := some 48) HT_ rfl rfl (by kernel_rfl) (fun _ _ _ h => h) (Or.inl ⟨by rfl, by intro w'; go_simp; with_reducible rfl⟩) (by simp only [aq_]; rfl) ?_
      refine pup_ (i := 9) (N := some 49) HT_ rfl rfl (by kernel_rfl) (fun _ _ _ h => h) (Or.inl ⟨by rfl, by intro w'; go_simp; with_reducible rfl⟩) (by simp only [aq_]; rfl) ?_
      refine take_ (i := 10) (N := some 50) (v := ?_) (a' := ?_) q7_15 rfl rfl (take_ofW HT_.out HW_.out (by kernel_rfl)) (fun _ _ _ h => h) (Or.inl ⟨by rfl, ?_⟩) hHeld ?_ ?_
      rotate_left
      ·rintro w' ⟨s0, s1, s2, s3, s4, s5, s6⟩
       go_simp
       with_reducible rfl
      rotate_left
      ·simp only [aq_]
       rfl
      refine pup_ (i := 11) (N := some 51) HT_ rfl rfl (by kernel_rfl) (fun _ _ _ h => h) (Or.inl ⟨by rfl, by intro w'; go_simp; with_reducible rfl⟩) (by simp only [aq_]; rfl) ?_
      refine take_ (i := 16) (N := some 56) (v := ?_) (a' := ?_) q7_17 rfl rfl (take_ofW HT_.out HW_.out (by kernel_rfl)) (fun _ _ _ h => h) (Or.inl ⟨by rfl, ?_⟩) hHeld ?_ ?_
      rotate_left
      ·rintro w' ⟨s0, s1, s2, s3, s4, s5, s6⟩
       go_simp
       with_reducible rfl
      rotate_left
      ·simp only [aq_]
       rfl
      refine pup_ (i := 17) (N := some 57) HT_ rfl rfl (by kernel_rfl) (fun _ _ _ h => h) (Or.inl ⟨by rfl, by intro w'; go_simp; with_reducible rfl⟩) (by simp only [aq_]; rfl) ?_
      refine take_ (i := 18) (N := some 58) (v := ?_) (a' := ?_) q7_19 rfl rfl (take_ofW HT_.out HW_.out (by kernel_rfl)) (fun _ _ _ h => h) (Or.inl ⟨by rfl, ?_⟩) hHeld ?_ ?_
      rotate_left
      ·rintro w' ⟨s0, s1, s2, s3, s4, s5, s6⟩
       go_simp
       with_reducible rfl
      rotate_left
      ·simp only [aq_]
       rfl
      refine pup_ (i := 19) (N := some 59) HT_ rfl rfl (by kernel_rfl) (fun _ _ _ h => h) (Or.inl ⟨by rfl, by intro w'; go_simp; with_reducible rfl⟩) (by simp only [aq_]; rfl) ?_
      refine pup_ (i := 20) (N := some 60) HT_ rfl rfl (by kernel_rfl) (fun _ _ _ h => h) (Or.inl ⟨by rfl, by intro w'; go_simp; with_reducible rfl⟩) (by simp only [aq_]; rfl) ?_
      refine last_ (i := 21) (N := none) q7_22 rfl rfl (one_of HT_.out (by kernel_rfl)) (by decide) (fun K hK => ?_)
      refine skip_ (w1 := ?_) (by rfl) rfl ?_ ?_
      rotate_left
      ·go_simp
       rfl
      refine hK.out _ _ ?_
      clear hK K
      refine done_ (done_of HT_.out (by kernel_rfl)) ?_
      try go_wp2
      go_roundg k2
      case measure => have := HJ3.out; have := HK2.out; omega
      case rel => exact ⟨(y343), (wrap64 (x10_2 - 1)), (by first | rfl | (simp; done) | (simp [*]; done)), H', ⟨by have := HJ3.out; have := HK2.out; omega⟩, ⟨bR HQ44.out⟩, ⟨by (with_reducible repeat (first | apply Kd.R_alloc | apply Kd.R_drewN | apply Kd.R_drew)); exact Kd.R_mono (Kd.R_far (p := ⟨go29, (x10_2 : Int).toNat, none⟩) (Kd.R_mono HO_9.out (fun k_ hk => (⟨hk, fun e_ => hk (by rw [e_]; rfl)⟩ : _ ∧ k_ ≠ go29))) (fun _ hk => hk.2) (.int .i64 (wrap64 ((wrap64 (a2 + ((rd_T38 l0 (rd l1 x10_2)).f3))) - (rd t336 (rd l1 x10_2)))))) (fun _ hk => hk.1)⟩, ⟨by repeat (first | (with_reducible first | exact HB.out | apply below_alloc | apply pw_below_drewN | apply below_drew1 | refine below_set ?_ GB29.out) | exact HB.out)⟩⟩
     rw [if_pos c30] at H
     have c30b0 : decide ((wrap64 (x10_2 + 1)) < (l1.length : Int)) = true := decide_eq_true c30
     clear c30
     obtain ⟨ji31, hji31⟩ : ∃ j_ : Int, (wrap64 (x10_2 + 1)) = j_ := ⟨_, rfl⟩
     replace H : (if 0 ≤ (ji31) then (if (ji31) < (x8_2.length : Int) then ((spec_l1Least.f (rd y343 x10_2) (rd y343 (ji31))).bind fun t346 => (spec_SlacksOf.l0 k2 l0 l1 a2 (y343.set (x10_2 : Int).toNat t346) t336 (wrap64 (x10_2 - 1)))) else (none)) else (none)) = some (r1, r2) := by first | (rw [hji31] at H; exact H) | (simp only [hji31] at H ⊢; exact H)
     (try rw [hji31] at c30b0)
     have hji31w : (IntKind.i64.wrap (x10_2 + 1)) = ji31 := (i64_w _).trans hji31
     by_cases c32 : 0 ≤ (ji31)
     rotate_left
     ·rw [if_neg c32] at H
      exact absurd H (by simp)
     rw [if_pos c32] at H
     have c32b0 : decide (0 ≤ (ji31)) = true := decide_eq_true c32
     clear c32
     by_cases c33 : (ji31) < (x8_2.length : Int)
     rotate_left
     ·rw [if_neg c33] at H
      exact absurd H (by simp)
     rw [if_pos c33] at H
     have c33b0 : decide ((ji31) < (x8_2.length : Int)) = true := decide_eq_true c33
     clear c33
     replace H := Option.bind_eq_some_iff.mp H
     obtain ⟨t346, A340, H⟩ := H
     replace H : (spec_SlacksOf.l0 k2 l0 l1 a2 (y343.set (x10_2 : Int).toNat t346) t336 (wrap64 (x10_2 - 1))) = some (r1, r2) := H
     have A34 := Aside0.mk A340
     clear A340
     obtain ⟨y347, hy347⟩ : ∃ y_ : List Int, y_ = (y343.set (x10_2 : Int).toNat t346) := ⟨_, rfl⟩
     replace H : (spec_SlacksOf.l0 k2 l0 l1 a2 y347 t336 (wrap64 (x10_2 - 1))) = some (r1, r2) := by first | (rw [hy347]; with_reducible exact H) | (have H2_ := (Option.bind_some _ _).symm.trans H; rw [hy347]; with_reducible exact H2_) | (have H2_ := (Option.bind_some _ _).symm.trans H; with_reducible exact H2_) | with_reducible exact H | (rw [hy347]; exact H) | exact H
     have Ny347 := Aside0.mk hy347
     clear hy347
     have H' := Aside0.mk H
     clear H
     try go_wp2
     have n0_ := Aside0.mk (Kd.R_drew HO_8.out)
     have n1_ := Aside0.mk (Kd.R_drew HO_9.out)
     have n2_ := Aside0.mk (below_drew1 HB.out)
     replace HO_8 := n0_
     replace HO_9 := n1_
     replace HB := n2_
     clear n0_ n1_ n2_
     have p339 : 0 ≤ (x10_2 : Int) := of_decide_eq_true (by first | (with_reducible assumption) | assumption)
     have q339 : x10_2 < (l1.length : Int) := of_decide_eq_true (by first | (with_reducible assumption) | assumption)
     obtain ⟨ad339, e339, hx339_0⟩ := Kd.at_int HR1.out x10_2 p339 q339
     have hw339_0 := hx339_0
     cases e339
     replace hx339_0 := (HB.out.cell (World.block_lt_of_cell? w _ hx339_0)).trans hx339_0
     replace p339 := eq_true p339
     replace q339 := eq_true q339
     have p340 : 0 ≤ ((rd l1 x10_2) : Int) := of_decide_eq_true (by first | (with_reducible assumption) | assumption)
     have q340 : (rd l1 x10_2) < (l0.length : Int) := of_decide_eq_true (by first | (with_reducible assumption) | assumption)
     obtain ⟨ad340, e340, hx340_0, hx340_1, hx340_2, hx340_3⟩ := at_T38 HR0.out (rd l1 x10_2) p340 q340
     have hw340_3 := hx340_3
     have hw340_2 := hx340_2
     have hw340_1 := hx340_1
     have hw340_0 := hx340_0
     cases e340
     replace hx340_0 := (HB.out.cell (World.block_lt_of_cell? w _ hx340_0)).trans hx340_0
     replace hx340_1 := (HB.out.cell (World.block_lt_of_cell? w _ hx340_1)).trans hx340_1
     replace hx340_2 := (HB.out.cell (World.block_lt_of_cell? w _ hx340_2)).trans hx340_2
     replace hx340_3 := (HB.out.cell (World.block_lt_of_cell? w _ hx340_3)).trans hx340_3
     replace p340 := eq_true p340
     replace q340 := eq_true q340
     have p341 : 0 ≤ (x10_2 : Int) := of_decide_eq_true (by first | (with_reducible assumption) | assumption)
     have q341 : x10_2 < (l1.length : Int) := of_decide_eq_true (by first | (with_reducible assumption) | assumption)
     obtain ⟨ad341, e341, hx341_0⟩ := Kd.at_int HR1.out x10_2 p341 q341
     have hw341_0 := hx341_0
     obtain rfl : ad339 = ad341 := (by injection e341)
     replace hx341_0 := (HB.out.cell (World.block_lt_of_cell? w _ hx341_0)).trans hx341_0
     replace p341 := eq_true p341
     replace q341 := eq_true q341
     obtain ⟨Ao37, co37, eo37⟩ := Kd.R_slice HO_9.out
     (first | subst eo37 | (injection eo37 with f1_ f2_ f3_; have f4_ := f1_.symm; have f5_ := f3_.symm; clear f1_ f2_ f3_; subst f4_; subst f5_))
     have p342 : 0 ≤ ((rd l1 x10_2) : Int) := of_decide_eq_true (by first | (with_reducible assumption) | assumption)
     have q342 : (rd l1 x10_2) < (t336.length : Int) := of_decide_eq_true (by first | (with_reducible assumption) | assumption)
     obtain ⟨ad342, e342, hx342_0⟩ := Kd.at_int (Kd.R_reads' HO_9.out).2.2 (rd l1 x10_2) p342 q342
     cases e342
     replace p342 := eq_true p342
     replace q342 := eq_true q342
     have p29 : 0 ≤ (x10_2 : Int) := of_decide_eq_true (by first | (with_reducible assumption) | assumption)
     have q29 : (x10_2 : Int) < ((x8_2.length : Int) : Int) := of_decide_eq_true (by first | (with_reducible assumption) | assumption)
     obtain ⟨go29, co29, eo29, gb29, gl29, cl29, HG29⟩ := Kd.R_form HO_8.out (by omega)
     (first | cases eo29 | (injection eo29 with ea_ en_ ec_; (first | subst ea_ | (injection ea_ with ea_; subst ea_)); subst ec_; clear en_))
     have GB29 := Aside0.mk gb29
     have GG29 := Aside0.mk HG29
     clear gb29 gl29 HG29
     obtain ⟨hx29_0, hf29_0⟩ := Kd.R_celln 0 HO_8.out (x10_2 : Int) p29 q29
     replace p29 := eq_true p29
     replace q29 := eq_true q29
     have HP38 := Kd.R_putn HO_8.out (x10_2 : Int) (wrap64 ((wrap64 (a2 + ((rd_T38 l0 (rd l1 x10_2)).f3))) - (rd t336 (rd l1 x10_2))))
     rw [← Ny343.out] at HP38
     have HQ38 := Aside0.mk HP38
     clear HP38
     refine start_ (n := 22) (S := fun w' => w'.cell? (ad339.add (x10_2).toNat) = some (.int .i64 (rd l1 x10_2)) ∧ w'.cell? (ad340.add (((rd l1 x10_2)).toNat * 4)) = some (.int .i64 ((rd_T38 l0 (rd l1 x10_2)).f0)) ∧ w'.cell? ⟨(ad340.add (((rd l1 x10_2)).toNat * 4)).block, (ad340.add (((rd l1 x10_2)).toNat * 4)).off + 1, none⟩ = some (.int .i64 ((rd_T38 l0 (rd l1 x10_2)).f1)) ∧ w'.cell? ⟨(ad340.add (((rd l1 x10_2)).toNat * 4)).block, (ad340.add (((rd l1 x10_2)).toNat * 4)).off + 2, none⟩ = some (.int .i64 ((rd_T38 l0 (rd l1 x10_2)).f2)) ∧ w'.cell? ⟨(ad340.add (((rd l1 x10_2)).toNat * 4)).block, (ad340.add (((rd l1 x10_2)).toNat * 4)).off + 3, none⟩ = some (.int .i64 ((rd_T38 l0 (rd l1 x10_2)).f3)) ∧ w'.cell? (ad339.add (x10_2).toNat) = some (.int .i64 (rd l1 x10_2)) ∧ w'.cell? (ad342.add ((rd l1 x10_2)).toNat) = some (.int .i64 (rd t336 (rd l1 x10_2)))) (ds := [21]) q7_0 (by kernel_rfl) rfl rfl ⟨(bcl_ HB.out hw339_0 :), (bcl_ HB.out hw340_0 :), (bcl_ HB.out hw340_1 :), (bcl_ HB.out hw340_2 :), (bcl_ HB.out hw340_3 :), (bcl_ HB.out hw341_0 :), hx342_0⟩ (fun hHeld => ?_); refine with_tabW spec_SlacksOf.tab8 spec_SlacksOf.bits8 (fun HT_ HW_ => ?_)
     generalize wr.drew = w36 at HO_8 HO_9 HB GG29 HQ38 hf29_0 hx29_0 hx339_0 hx340_0 hx340_1 hx340_2 hx340_3 hx341_0 hx342_0 hHeld ⊢
     refine pup_ (i := 0) (N := some 40) HT_ rfl rfl (by kernel_rfl) (fun _ _ _ h => h) (Or.inl ⟨by rfl, by intro w'; go_simp; with_reducible rfl⟩) (by simp only [aq_]; rfl) ?_
     refine pup_ (i := 1) (N := some 41) HT_ rfl rfl (by kernel_rfl) (fun _ _ _ h => h) (Or.inl ⟨by rfl, by intro w'; go_simp; with_reducible rfl⟩) (by simp only [aq_]; rfl) ?_
     refine pup_ (i := 2) (N := some 42) HT_ rfl rfl (by kernel_rfl) (fun _ _ _ h => h) (Or.inl ⟨by rfl, by intro w'; go_simp; with_reducible rfl⟩) (by simp only [aq_]; rfl) ?_
     refine pup_ (i := 3) (N := some 43) HT_ rfl rfl (by kernel_rfl) (fun _ _ _ h => h) (Or.inl ⟨by rfl, by intro w'; go_simp; with_reducible rfl⟩) (by simp only [aq_]; rfl) ?_
     refine pup_ (i := 4) (N := some 44) HT_ rfl rfl (by kernel_rfl) (fun _ _ _ h => h) (Or.inl ⟨by rfl, by intro w'; go_simp; with_reducible rfl⟩) (by simp only [aq_]; rfl) ?_
     refine pup_ (i := 5) (N := some 45) HT_ rfl rfl (by kernel_rfl) (fun _ _ _ h => h) (Or.inl ⟨by rfl, by intro w'; go_simp; with_reducible rfl⟩) (by simp only [aq_]; rfl) ?_
     refine pup_ (i := 6) (N := some 46) HT_ rfl rfl (by kernel_rfl) (fun _ _ _ h => h) (Or.inl ⟨by rfl, by intro w'; go_simp; with_reducible rfl⟩) (by simp only [aq_]; rfl) ?_
     refine pup_ (i := 12) (N := some 52) HT_ rfl rfl (by kernel_rfl) (fun _ _ _ h => h) (Or.inl ⟨by rfl, by intro w'; go_simp; with_reducible rfl⟩) (by simp only [aq_]; rfl) ?_
     refine pup_ (i := 13) (N := some 53) HT_ rfl rfl (by kernel_rfl) (fun _ _ _ h => h) (Or.inl ⟨by rfl, by intro w'; go_simp; with_reducible rfl⟩) (by simp only [aq_]; rfl) ?_
     refine pup_ (i := 14) (N := some 54) HT_ rfl rfl (by kernel_rfl) (fun _ _ _ h => h) (Or.inl ⟨by rfl, by intro w'; go_simp; with_reducible rfl⟩) (by simp only [aq_]; rfl) ?_
     refine pup_ (i := 15) (N := some 55) HT_ rfl rfl (by kernel_rfl) (fun _ _ _ h => h) (Or.inl ⟨by rfl, by intro w'; go_simp; with_reducible rfl⟩) (by simp only [aq_]; rfl) ?_
     refine take_ (i := 7) (N := some 47) (v := ?_) (a' := ?_) q7_12 rfl rfl (take_ofW HT_.out HW_.out (by kernel_rfl)) (fun _ _ _ h => h) (Or.inl ⟨by rfl, ?_⟩) hHeld ?_ ?_
     rotate_left
     ·rintro w' ⟨s0, s1, s2, s3, s4, s5, s6⟩
      go_simp
      with_reducible rfl
     rotate_left
     ·simp only [aq_]
      rfl
     refine pup_ (i := 8) (N := some 48) HT_ rfl rfl (by kernel_rfl) (fun _ _ _ h => h) (Or.inl ⟨by rfl, by intro w'; go_simp; with_reducible rfl⟩) (by simp only [aq_]; rfl) ?_
     refine pup_ (i := 9) (N := some 49) HT_ rfl rfl (by kernel_rfl) (fun _ _ _ h => h) (Or.inl ⟨by rfl, by intro w'; go_simp; with_reducible rfl⟩) (by simp only [aq_]; rfl) ?_
     refine take_ (i := 10) (N := some 50) (v := ?_) (a' := ?_) q7_15 rfl rfl (take_ofW HT_.out HW_.out (by kernel_rfl)) (fun _ _ _ h => h) (Or.inl ⟨by rfl, ?_⟩) hHeld ?_ ?_
     rotate_left
     ·rintro w' ⟨s0, s1, s2, s3, s4, s5, s6⟩
      go_simp
      with_reducible rfl
     rotate_left
     ·simp only [aq_]
      rfl
     refine pup_ (i := 11) (N := some 51) HT_ rfl rfl (by kernel_rfl) (fun _ _ _ h => h) (Or.inl ⟨by rfl, by intro w'; go_simp; with_reducible rfl⟩) (by simp only [aq_]; rfl) ?_
     refine take_ (i := 16) (N := some 56) (v := ?_) (a' := ?_) q7_17 rfl rfl (take_ofW HT_.out HW_.out (by kernel_rfl)) (fun _ _ _ h => h) (Or.inl ⟨by rfl, ?_⟩) hHeld ?_ ?_
     rotate_left
     ·rintro w' ⟨s0, s1, s2, s3, s4, s5, s6⟩
      go_simp
      with_reducible rfl
     rotate_left
     ·simp only [aq_]
      rfl
     refine pup_ (i := 17) (N := some 57) HT_ rfl rfl (by kernel_rfl) (fun _ _ _ h => h) (Or.inl ⟨by rfl, by intro w'; go_simp; with_reducible rfl⟩) (by simp only [aq_]; rfl) ?_
     refine take_ (i := 18) (N := some 58) (v := ?_) (a' := ?_) q7_19 rfl rfl (take_ofW HT_.out HW_.out (by kernel_rfl)) (fun _ _ _ h => h) (Or.inl ⟨by rfl, ?_⟩) hHeld ?_ ?_
     rotate_left
     ·rintro w' ⟨s0, s1, s2, s3, s4, s5, s6⟩
      go_simp
      with_reducible rfl
     rotate_left
     ·simp only [aq_]
      rfl
     refine pup_ (i := 19) (N := some 59) HT_ rfl rfl (by kernel_rfl) (fun _ _ _ h => h) (Or.inl ⟨by rfl, by intro w'; go_simp; with_reducible rfl⟩) (by simp only [aq_]; rfl) ?_
     refine pup_ (i := 20) (N := some 60) HT_ rfl rfl (by kernel_rfl) (fun _ _ _ h => h) (Or.inl ⟨by rfl, by intro w'; go_simp; with_reducible rfl⟩) (by simp only [aq_]; rfl) ?_
     refine last_ (i := 21) (N := none) q7_22 rfl rfl (one_of HT_.out (by kernel_rfl)) (by decide) (fun K hK => ?_)
     refine skip_ (w1 := ?_) (by rfl) rfl ?_ ?_
     rotate_left
     ·go_simp
      rfl
     refine hK.out _ _ ?_
     clear hK K
     refine done_ (done_of HT_.out (by kernel_rfl)) ?_
     try go_wp2
     have n0_ : Aside0 (Kd.R (Kd.int .i64) 3 (w36.setCell ⟨go29, (x10_2 : Int).toNat, none⟩ (.int .i64 (wrap64 ((wrap64 (a2 + ((rd_T38 l0 (rd l1 x10_2)).f3))) - (rd t336 (rd l1 x10_2)))))) w.heap.size (fun k_ => some k_ ≠ (.slice (some ad342) t336.length co37 : Value).ownBlock) (.slice (some ⟨go29, 0, none⟩) x8_2.length co29) y343) := ⟨bR HQ38.out⟩
     have n1_ : Aside0 (Kd.R (Kd.int .i64) 3 (w36.setCell ⟨go29, (x10_2 : Int).toNat, none⟩ (.int .i64 (wrap64 ((wrap64 (a2 + ((rd_T38 l0 (rd l1 x10_2)).f3))) - (rd t336 (rd l1 x10_2)))))) w.heap.size (fun k_ => some k_ ≠ (.slice (some ⟨go29, 0, none⟩) x8_2.length co29 : Value).ownBlock) (.slice (some ad342) t336.length co37) t336) := ⟨by (with_reducible repeat (first | apply Kd.R_alloc | apply Kd.R_drewN | apply Kd.R_drew)); exact Kd.R_mono (Kd.R_far (p := ⟨go29, (x10_2 : Int).toNat, none⟩) (Kd.R_mono HO_9.out (fun k_ hk => (⟨hk, fun e_ => hk (by rw [e_]; rfl)⟩ : _ ∧ k_ ≠ go29))) (fun _ hk => hk.2) (.int .i64 (wrap64 ((wrap64 (a2 + ((rd_T38 l0 (rd l1 x10_2)).f3))) - (rd t336 (rd l1 x10_2)))))) (fun _ hk => hk.1)⟩
     have n2_ : Aside0 (Below w.heap.size w (w36.setCell ⟨go29, (x10_2 : Int).toNat, none⟩ (.int .i64 (wrap64 ((wrap64 (a2 + ((rd_T38 l0 (rd l1 x10_2)).f3))) - (rd t336 (rd l1 x10_2))))))) := ⟨by repeat (first | (with_reducible first | exact HB.out | apply below_alloc | apply pw_below_drewN | apply below_drew1 | refine below_set ?_ GB29.out) | exact HB.out)⟩
     (try clear HO_8)
     (try clear HO_9)
     (try clear HB)
     (try simp only [setCell_drewN])
     generalize (w36.setCell ⟨go29, (x10_2 : Int).toNat, none⟩ (.int .i64 (wrap64 ((wrap64 (a2 + ((rd_T38 l0 (rd l1 x10_2)).f3))) - (rd t336 (rd l1 x10_2)))))) = w39 at n0_ n1_ n2_ ⊢
     have HO_8 := n0_
     have HO_9 := n1_
     have HB := n2_
     clear n0_ n1_ n2_
     have n0_ := Aside0.mk (Kd.R_drew HO_8.out)
     have n1_ := Aside0.mk (Kd.R_drew HO_9.out)
     have n2_ := Aside0.mk (below_drew1 HB.out)
     replace HO_8 := n0_
     replace HO_9 := n1_
     replace HB := n2_
     clear n0_ n1_ n2_
     have p344 : 0 ≤ (x10_2 : Int) := of_decide_eq_true (by first | (with_reducible assumption) | assumption)
     have q344 : x10_2 < (y343.length : Int) := (by have h_ : (x10_2 : Int) < ((x8_2.length : Int) : Int) := of_decide_eq_true (by first | (with_reducible assumption) | assumption); first | (have e_ := (Kd.R_reads' HO_8.out).1; omega) | simpa only [Ny343.out, List.length_set] using h_)
     have ql344 : ((x10_2 : Int) < ((x8_2.length : Int) : Int)) = True := eq_true (of_decide_eq_true (by first | (with_reducible assumption) | assumption))
     obtain ⟨ad344, e344, hx344_0⟩ := Kd.at_int (Kd.R_reads' HO_8.out).2.2 x10_2 p344 q344
     obtain rfl : (⟨go29, 0, none⟩ : Addr) = ad344 := (by injection e344)
     (first | simp only [add_plain] at hx344_0 | simp only [add_at] at hx344_0 | simp only [Addr.add, Nat.zero_add] at hx344_0 | skip)
     replace p344 := eq_true p344
     replace q344 := eq_true q344
     have p345 : 0 ≤ ((ji31) : Int) := of_decide_eq_true (by first | (with_reducible assumption) | assumption)
     have q345 : (ji31) < (y343.length : Int) := (by have h_ : ((ji31) : Int) < ((x8_2.length : Int) : Int) := of_decide_eq_true (by first | (with_reducible assumption) | assumption); first | (have e_ := (Kd.R_reads' HO_8.out).1; omega) | simpa only [Ny343.out, List.length_set] using h_)
     have ql345 : (((ji31) : Int) < ((x8_2.length : Int) : Int)) = True := eq_true (of_decide_eq_true (by first | (with_reducible assumption) | assumption))
     obtain ⟨ad345, e345, hx345_0⟩ := Kd.at_int (Kd.R_reads' HO_8.out).2.2 (ji31) p345 q345
     obtain rfl : (⟨go29, 0, none⟩ : Addr) = ad345 := (by injection e345)
     (first | simp only [add_plain] at hx345_0 | simp only [add_at] at hx345_0 | simp only [Addr.add, Nat.zero_add] at hx345_0 | skip)
     replace p345 := eq_true p345
     replace q345 := eq_true q345
     refine start_ (n := 14) (S := fun w' => w'.cell? ⟨go29, (x10_2).toNat, none⟩ = some (.int .i64 (rd y343 x10_2)) ∧ w'.cell? ⟨go29, ((ji31)).toNat, none⟩ = some (.int .i64 (rd y343 (ji31)))) (ds := [13]) q7_23 (by kernel_rfl) rfl rfl ⟨hx344_0, hx345_0⟩ (fun hHeld => ?_); refine with_tabW spec_SlacksOf.tab10 spec_SlacksOf.bits10 (fun HT_ HW_ => ?_)
     generalize w39.drew = w40 at HO_8 HO_9 HB HQ38 hx344_0 hx345_0 hHeld ⊢
     refine pup_ (i := 0) (N := some 66) HT_ rfl rfl (by kernel_rfl) (fun _ _ _ h => h) (Or.inl ⟨by rfl, by intro w'; go_simp; with_reducible rfl⟩) (by simp only [aq_]; rfl) ?_
     refine pup_ (i := 1) (N := some 67) HT_ rfl rfl (by kernel_rfl) (fun _ _ _ h => h) (Or.inl ⟨by rfl, by intro w'; go_simp; with_reducible rfl⟩) (by simp only [aq_]; rfl) ?_
     refine pup_ (i := 2) (N := some 68) HT_ rfl rfl (by kernel_rfl) (fun _ _ _ h => h) (Or.inl ⟨by rfl, by intro w'; go_simp; with_reducible rfl⟩) (by simp only [aq_]; rfl) ?_
     refine pup_ (i := 3) (N := some 69) HT_ rfl rfl (by kernel_rfl) (fun _ _ _ h => h) (Or.inl ⟨by rfl, by intro w'; go_simp; with_reducible rfl⟩) (by simp only [aq_]; rfl) ?_
     refine pup_ (i := 4) (N := some 70) HT_ rfl rfl (by kernel_rfl) (fun _ _ _ h => h) (Or.inl ⟨by rfl, by intro w'; go_simp; with_reducible rfl⟩) (by simp only [aq_]; rfl) ?_
     refine pup_ (i := 6) (N := some 72) HT_ rfl rfl (by kernel_rfl) (fun _ _ _ h => h) (Or.inl ⟨by rfl, by intro w'; go_simp; with_reducible rfl⟩) (by simp only [aq_]; rfl) ?_
     refine pup_ (i := 7) (N := some 73) HT_ rfl rfl (by kernel_rfl) (fun _ _ _ h => h) (Or.inl ⟨by rfl, by intro w'; go_simp; with_reducible rfl⟩) (by simp only [aq_]; rfl) ?_
     refine pup_ (i := 8) (N := some 74) HT_ rfl rfl (by kernel_rfl) (fun _ _ _ h => h) (Or.inl ⟨by rfl, by intro w'; go_simp; with_reducible rfl⟩) (by simp only [aq_]; rfl) ?_
     refine pup_ (i := 9) (N := some 75) HT_ rfl rfl (by kernel_rfl) (fun _ _ _ h => h) (Or.inl ⟨by rfl, by intro w'; go_simp; with_reducible rfl⟩) (by simp only [aq_]; rfl) ?_
     refine take_ (i := 5) (N := some 71) (v := ?_) (a' := ?_) q7_33 rfl rfl (take_ofW HT_.out HW_.out (by kernel_rfl)) (fun _ _ _ h => h) (Or.inl ⟨by rfl, ?_⟩) hHeld ?_ ?_
     rotate_left
     ·rintro w' ⟨s0, s1⟩
      go_simp
      with_reducible rfl
     rotate_left
     ·simp only [aq_]
      rfl
     refine take_ (i := 10) (N := some 76) (v := ?_) (a' := ?_) q7_34 rfl rfl (take_ofW HT_.out HW_.out (by kernel_rfl)) (fun _ _ _ h => h) (Or.inl ⟨by rfl, ?_⟩) hHeld ?_ ?_
     rotate_left
     ·rintro w' ⟨s0, s1⟩
      go_simp
      with_reducible rfl
     rotate_left
     ·simp only [aq_]
      rfl
     refine one_ (i := 11) (N := some 77) q7_35 rfl rfl (one_of HT_.out (by kernel_rfl)) (by decide) (fun K hK => ?_)
     refine goes_ Try.func27 (by kernel_rfl) rfl #[.int .i64 (rd y343 x10_2), .int .i64 (rd y343 (ji31))] (by rfl) rfl rfl (by (try simp only [mA_]); first | done | (simp only [hji31]; rfl) | rfl | (simp only [List.length_drop, List.length_take]; rfl)) ?_
     with_reducible refine (spec_l1Least.calls (rd y343 x10_2) (rd y343 (ji31)) t346 _ A34.out).mono ?_
     rintro e w' ⟨rfl, ⟨nd, rfl⟩⟩
     refine ⟨_, rfl, ?_⟩
     have p35 : 0 ≤ (x10_2 : Int) := of_decide_eq_true (by first | (with_reducible assumption) | assumption)
     have q35 : (x10_2 : Int) < ((x8_2.length : Int) : Int) := of_decide_eq_true (by first | (with_reducible assumption) | assumption)
     obtain ⟨hx35_0, hf35_0⟩ := Kd.R_celln 0 HO_8.out (x10_2 : Int) p35 q35
     replace p35 := eq_true p35
     replace q35 := eq_true q35
     have HP41 := Kd.R_putn HO_8.out (x10_2 : Int) t346
     rw [← Ny347.out] at HP41
     have HQ41 := Aside0.mk HP41
     clear HP41
     refine hK.out _ _ ⟨hHeld.1, hHeld.2⟩ (fun hHeld => ?_)
     clear hK K
     refine norm_ (a' := ?_) ?_ ?_
     rotate_left
     ·show Act.put _ (some 77) _ = _
      simp only [aq_]
      rfl
     refine pup_ (i := 12) (N := some 78) HT_ rfl rfl (by kernel_rfl) (fun _ _ _ h => h) (Or.inl ⟨by rfl, by intro w'; go_simp; with_reducible rfl⟩) (by simp only [aq_]; rfl) ?_
     refine last_ (i := 13) (N := none) q7_37 rfl rfl (one_of HT_.out (by kernel_rfl)) (by decide) (fun K hK => ?_)
     refine skip_ (w1 := ?_) (by rfl) rfl ?_ ?_
     rotate_left
     ·go_simp
      rfl
     refine hK.out _ _ ?_
     clear hK K
     refine done_ (done_of HT_.out (by kernel_rfl)) ?_
     try go_wp2
     (try simp only [setCell_drewN])
     go_roundg k2
     case measure => have := HJ3.out; have := HK2.out; omega
     case rel => exact ⟨(y347), (wrap64 (x10_2 - 1)), (by first | rfl | (simp; done) | (simp [*]; done)), H', ⟨by have := HJ3.out; have := HK2.out; omega⟩, ⟨bR HQ41.out⟩, ⟨by (with_reducible repeat (first | apply Kd.R_alloc | apply Kd.R_drewN | apply Kd.R_drew)); exact Kd.R_mono (Kd.R_far (p := ⟨go29, (x10_2 : Int).toNat, none⟩) (Kd.R_mono HO_9.out (fun k_ hk => (⟨hk, fun e_ => hk (by rw [e_]; rfl)⟩ : _ ∧ k_ ≠ go29))) (fun _ hk => hk.2) (.int .i64 t346)) (fun _ hk => hk.1)⟩, ⟨by repeat (first | (with_reducible first | exact HB.out | apply below_alloc | apply pw_below_drewN | apply below_drew1 | refine below_set ?_ GB29.out) | exact HB.out)⟩⟩

/-! ### spec_DrawStretchedJobs: function 8 -/
def spec_DrawStretchedJobs.f (k : Nat) (l0 : List Int) : Option (List (S38) × Int) := (spec_l1Cur_jobs.f k l0 0 0).bind fun x0 => (spec_l1Cur_among.f l0 x0.2.1 x0.2.2 [1, 2, 3, 5, 10, 11, 0]).bind fun x1 => some (x0.1, x1.1)
theorem spec_DrawStretchedJobs.mono : ∀ l0 k, LeO (spec_DrawStretchedJobs.f k l0) (spec_DrawStretchedJobs.f (k + 1) l0) := fun l0 k => LeO.bind (spec_l1Cur_jobs.mono _ _ _ k) (fun _ => LeO.bind (LeO.refl _) (fun _ => LeO.refl _))
set_option maxHeartbeats 8000000 in
set_option maxRecDepth 100000 in
theorem spec_DrawStretchedJobs.calls (k : Nat) (A0 : Option Addr) (c0 : Nat) (l0 : List Int) (r1 : List (S38)) (r2 : Int) (w : World) (hr0 : Kd.C (Kd.int .u8) w A0 l0.length l0) (hc0 : l0.length ≤ c0) (h : spec_DrawStretchedJobs.f k l0 = some (r1, r2)) :
  Calls Try.prog 8 #[.slice A0 l0.length c0] w fun e w' => ∃ v0_ : Value, e = .returned (.tuple #[v0_, .int .i64 r2]) ∧ Kd.R k38 38 w' w.heap.size (fun _ => True) v0_ r1 ∧ Below w.heap.size w w' := by
 have hu_ := Try.underlying44
 have HR0 := Aside0.mk hr0
 have HC0 := Aside0.mk hc0
 have HB := Aside0.mk (Below.refl w.heap.size w)
 clear hr0 hc0
 obtain ⟨⟨J, a0, s0⟩, hc_0, h⟩ := Option.bind_eq_some_iff.mp h
 have HC_0 := Aside0.mk hc_0
 clear hc_0
 obtain ⟨⟨Z, a1, s1⟩, hc_1, h⟩ := Option.bind_eq_some_iff.mp h
 have HC_1 := Aside0.mk hc_1
 clear hc_1
 simp only [Option.some.injEq, Prod.mk.injEq] at h
 obtain ⟨rfl, rfl⟩ := h
 go_enter Try.func8, Try.ntmps8
 go_wp2_with (first | ((with_reducible refine gate_dst (N := 8) rfl ?_); refine box_event ?hg (N := 8) ?hd (cs := #[.slice A0 l0.length c0, .int .i64 0, .int .u64 0]) (t := 44) ?hr ?_; (case hd => rfl); (case hg => rfl); (case hr => first | (go_simp; done) | (go_simp; rfl)); intro g hg wb hbox hb; have m1 := Aside0.mk (show IsS44 w wb g l0 0 0 from ⟨A0, c0, hbox, (ge_ hg HB.out).out, HR0.out⟩); have m2 := Aside0.mk (below_step (bw HB.out) hb); have HI := m1; replace HB := m2; clear m1 m2 hbox hb hg) | ((with_reducible refine gate_callee (f := 28) rfl ?_); refine goesL_ (some 10) rfl rfl Try.func28 (by kernel_rfl) rfl #[.pointer (some ⟨g, 0, none⟩)] rfl (by (try simp only [mA_]); first | done | rfl) ?_; (with_reducible refine (spec_l1Cur_jobs.calls k g l0 0 0 J a0 s0 w _ (by repeat (first | (with_reducible first | exact HI.out | apply IsS44.alloc | apply IsS44.drewN | apply IsS44.drew) | exact HI.out)) (bw HB.out) HC_0.out).mono ?_); rintro e w10 ⟨vJ, rfl, ho, hi, hb, hk⟩; refine ⟨_, rfl, ?_⟩; have m0 := Aside0.mk (Kd.R_lower ho (below_size (bw HB.out))); have HJ := m0; have m2 := Aside0.mk hb; have m3 := Aside0.mk hi; replace HB := m2; replace HI := m3; clear m0 m2 m3 ho hi hb hk; obtain ⟨AJ, cJ, eJ⟩ := Kd.R_slice HJ.out; subst eJ) | ((with_reducible refine gate_dst (N := 13) rfl ?_); refine Kd.R_lit (Kd.int .i64) _ 3 ?hg (N := 13) ?hd (xs := ([1, 2, 3, 5, 10, 11, 0] : List Int)) (inner := [.int .i64 1, .int .i64 2, .int .i64 3, .int .i64 5, .int .i64 10, .int .i64 11, .int .i64 0]) (ok := fun _ => True) (okp := fun _ => True) ?hr ?hp (fun _ hk => hk) trivial (Below.refl _ _) (Nat.le_refl _) (by simp) ?_; (case hd => rfl); (case hg => rfl); (case hr => first | (go_simp; done) | (go_simp; rfl)); (case hp => exact (Reps.one (show Kd.M (Kd.int .i64) _ _ _ 1 [.int .i64 1] from rfl) (Reps.one (show Kd.M (Kd.int .i64) _ _ _ 2 [.int .i64 2] from rfl) (Reps.one (show Kd.M (Kd.int .i64) _ _ _ 3 [.int .i64 3] from rfl) (Reps.one (show Kd.M (Kd.int .i64) _ _ _ 5 [.int .i64 5] from rfl) (Reps.one (show Kd.M (Kd.int .i64) _ _ _ 10 [.int .i64 10] from rfl) (Reps.one (show Kd.M (Kd.int .i64) _ _ _ 11 [.int .i64 11] from rfl) (Reps.one (show Kd.M (Kd.int .i64) _ _ _ 0 [.int .i64 0] from rfl) (Reps.none _ _))))))))); intro v13 w13 ho hb hg_ hnew_; clear hg_ hnew_; have m0 := Aside0.mk (Kd.R_lower ho (below_size (bw HB.out))); have mr0 := Aside0.mk (Kd.R_below (bR HJ.out) hb); have m1 := Aside0.mk (IsS44.below (by repeat (first | (with_reducible first | exact HI.out | apply IsS44.alloc | apply IsS44.drewN | apply IsS44.drew) | exact HI.out)) hb); have m2 := Aside0.mk (below_step (bw HB.out) hb); have HL1 := m0; replace HI := m1; replace HB := m2; replace HJ := mr0; clear m0 m1 m2 ho hb mr0; obtain ⟨Al1, cl1, el1⟩ := Kd.R_slice HL1.out; subst el1) | ((with_reducible refine gate_callee (f := 18) rfl ?_); refine goesL_ (some 14) rfl rfl Try.func18 (by kernel_rfl) rfl #[.pointer (some ⟨g, 0, none⟩), .slice Al1 ([1, 2, 3, 5, 10, 11, 0] : List Int).length cl1] rfl (by (try simp only [mA_]); first | done | rfl) ?_; (with_reducible refine (spec_l1Cur_among.calls g l0 a0 s0 Al1 cl1 [1, 2, 3, 5, 10, 11, 0] Z a1 s1 w _ (by repeat (first | (with_reducible first | exact HI.out | apply IsS44.alloc | apply IsS44.drewN | apply IsS44.drew) | exact HI.out)) (bw HB.out) (Kd.R_reads' HL1.out).2.2 (Kd.R_reads' HL1.out).2.1 (far_slice (IsS44.own_ne HI.out HL1.out (by decide))) HC_1.out).mono ?_); rintro e w14 ⟨rfl, hi, hb, hk⟩; refine ⟨_, rfl, ?_⟩; have mr0 := Aside0.mk (Kd.R_mono (Kd.R_keep (IsS44.apart (show IsS44 w _ g _ _ _ from (by repeat (first | (with_reducible first | exact HI.out | apply IsS44.alloc | apply IsS44.drewN | apply IsS44.drew) | exact HI.out))) (bR HJ.out) (by decide)) hk (fun _ h => h.2)) (fun _ h => h.1)); have m2 := Aside0.mk hb; have m3 := Aside0.mk hi; replace HB := m2; replace HI := m3; replace HJ := mr0; clear m2 m3 hi hb hk mr0; clear HL1))
 go_ret2
 exact ⟨_, rfl, bR HJ.out, bw HB.out⟩

/-! ### laws_vCut: function 9 -/
def laws_vCut.f (l0 : List Int) (a1 : Int) : Option (List Int) := if a1 > (l0.length : Int) then ((some (([] : List Int) : List Int)).bind fun y348 => (if 0 ≤ (l0.length : Int) then (if (l0.length : Int) ≤ (l0.length : Int) then (if y348.length + (l0.drop ((l0.length : Int) : Int).toNat).length < 140737488355328 then ((some (y348 ++ (l0.drop ((l0.length : Int) : Int).toNat) : List Int)).bind fun y352 => (if y352.length < 140737488355328 then (some (y352 ++ [((l0.length : Int)) % 256])) else (none))) else (none)) else (none)) else (none))) else ((some (([] : List Int) : List Int)).bind fun y358 => (if 0 ≤ a1 then (if a1 ≤ (l0.length : Int) then (if y358.length + (l0.drop (a1 : Int).toNat).length < 140737488355328 then ((some (y358 ++ (l0.drop (a1 : Int).toNat) : List Int)).bind fun y362 => (if y362.length < 140737488355328 then (some (y362 ++ [(a1) % 256])) else (none))) else (none)) else (none)) else (none)))
set_option maxHeartbeats 8000000 in
set_option maxRecDepth 100000 in
theorem laws_vCut.calls (A0 : Option Addr) (c0 : Nat) (l0 : List Int) (a1 : Int) (r : List Int) (w : World) (hr0 : Kd.C (Kd.int .u8) w A0 l0.length l0) (hc0 : l0.length ≤ c0) (h : laws_vCut.f l0 a1 = some r) :
  Calls Try.prog 9 #[.slice A0 l0.length c0, .int .i64 a1] w fun e w' => ∃ v0_ : Value, e = .returned (v0_) ∧ Kd.R (Kd.int .u8) 5 w' w.heap.size (fun _ => True) v0_ r ∧ Below w.heap.size w w' := by
 have HR0 := Aside0.mk hr0
 have HC0 := Aside0.mk hc0
 clear hr0 hc0
 have HB := Aside0.mk (Below.refl w.heap.size w)
 have H : (if a1 > (l0.length : Int) then ((some (([] : List Int) : List Int)).bind fun y348 => (if 0 ≤ (l0.length : Int) then (if (l0.length : Int) ≤ (l0.length : Int) then (if y348.length + (l0.drop ((l0.length : Int) : Int).toNat).length < 140737488355328 then ((some (y348 ++ (l0.drop ((l0.length : Int) : Int).toNat) : List Int)).bind fun y352 => (if y352.length < 140737488355328 then (some (y352 ++ [((l0.length : Int)) % 256])) else (none))) else (none)) else (none)) else (none))) else ((some (([] : List Int) : List Int)).bind fun y358 => (if 0 ≤ a1 then (if a1 ≤ (l0.length : Int) then (if y358.length + (l0.drop (a1 : Int).toNat).length < 140737488355328 then ((some (y358 ++ (l0.drop (a1 : Int).toNat) : List Int)).bind fun y362 => (if y362.length < 140737488355328 then (some (y362 ++ [(a1) % 256])) else (none))) else (none)) else (none)) else (none)))) = some r := h
 clear h
 by_cases c3 : a1 > (l0.length : Int)
 rotate_left
 ·rw [if_neg c3] at H
  have c3b0 : decide ((l0.length : Int) < a1) = false := decide_eq_false c3
  clear c3
  obtain ⟨y358, hy358⟩ : ∃ y_ : List Int, y_ = (([] : List Int)) := ⟨_, rfl⟩
  replace H : (if 0 ≤ a1 then (if a1 ≤ (l0.length : Int) then (if y358.length + (l0.drop (a1 : Int).toNat).length < 140737488355328 then ((some (y358 ++ (l0.drop (a1 : Int).toNat) : List Int)).bind fun y362 => (if y362.length < 140737488355328 then (some (y362 ++ [(a1) % 256])) else (none))) else (none)) else (none)) else (none)) = some r := by first | (rw [hy358]; with_reducible exact H) | (have H2_ := (Option.bind_some _ _).symm.trans H; rw [hy358]; with_reducible exact H2_) | (have H2_ := (Option.bind_some _ _).symm.trans H; with_reducible exact H2_) | with_reducible exact H | (rw [hy358]; exact H) | exact H
  have Ny358 := Aside0.mk hy358
  clear hy358
  by_cases c13 : 0 ≤ a1
  rotate_left
  ·rw [if_neg c13] at H
   exact absurd H (by simp)
  rw [if_pos c13] at H
  have c13b0 := eq_true c13
  have c13b1 : decide (0 ≤ a1) = true := decide_eq_true c13
  clear c13
  by_cases c14 : a1 ≤ (l0.length : Int)
  rotate_left
  ·rw [if_neg c14] at H
   exact absurd H (by simp)
  rw [if_pos c14] at H
  have c14b0 := eq_true c14
  have c14b1 : decide (a1 ≤ (l0.length : Int)) = true := decide_eq_true c14
  clear c14
  by_cases c15 : y358.length + (l0.drop (a1 : Int).toNat).length < 140737488355328
  rotate_left
  ·rw [if_neg c15] at H
   exact absurd H (by simp)
  rw [if_pos c15] at H
  have LMc15 := Aside0.mk c15
  clear c15
  obtain ⟨y362, hy362⟩ : ∃ y_ : List Int, y_ = (y358 ++ (l0.drop (a1 : Int).toNat)) := ⟨_, rfl⟩
  replace H : (if y362.length < 140737488355328 then (some (y362 ++ [(a1) % 256])) else (none)) = some r := by first | (rw [hy362]; with_reducible exact H) | (have H2_ := (Option.bind_some _ _).symm.trans H; rw [hy362]; with_reducible exact H2_) | (have H2_ := (Option.bind_some _ _).symm.trans H; with_reducible exact H2_) | with_reducible exact H | (rw [hy362]; exact H) | exact H
  have Ny362 := Aside0.mk hy362
  clear hy362
  by_cases c16 : y362.length < 140737488355328
  rotate_left
  ·rw [if_neg c16] at H
   exact absurd H (by simp)
  rw [if_pos c16] at H
  have LMc16 := Aside0.mk c16
  clear c16
  obtain ⟨y365, hy365⟩ : ∃ y_ : List Int, y_ = (y362 ++ [(a1) % 256]) := ⟨_, rfl⟩
  replace H : (some y365) = some r := by first | (rw [hy365]; with_reducible exact H) | (have H2_ := (Option.bind_some _ _).symm.trans H; rw [hy365]; with_reducible exact H2_) | (have H2_ := (Option.bind_some _ _).symm.trans H; with_reducible exact H2_) | with_reducible exact H | (rw [hy365]; exact H) | exact H
  have Ny365 := Aside0.mk hy365
  clear hy365
  obtain rfl := Option.some.inj H
  go_enter Try.func9, Try.ntmps9
  go_wp2_with (first | ((with_reducible refine gate_dst (N := 11) rfl ?_); refine Kd.R_lit (Kd.int .u8) _ 5 ?hg (N := 11) ?hd (xs := ([] : List Int)) (inner := []) (ok := fun _ => True) (okp := fun _ => True) ?hr ?hp (fun _ hk => hk) trivial (Below.refl _ _) (Nat.le_refl _) (by simp) ?_; (case hd => rfl); (case hg => rfl); (case hr => first | (go_simp; done) | (go_simp; rfl)); (case hp => exact (Reps.none _ _)); intro v359 w17 ho18 hb hg_ hnew_; clear hg_ hnew_; (first | rw [← Ny358.out] at ho18 | (simp only [Int.reduceToNat] at ho18; rw [← Ny358.out] at ho18)); have n0_ := Aside0.mk (Kd.R_lower ho18 (below_size (bw HB.out))); have n1_ := Aside0.mk (below_step (bw HB.out) hb); have HO360 := n0_; replace HB := n1_; clear n0_ n1_; clear hb ho18; obtain ⟨i019, hi019, _, hsz19, _⟩ := info_parts info5; obtain ⟨A19, hcut19, hA19, hC19⟩ := print_drop_of (P := Try.prog) (Value.int .u8) 0 22 5 .i64 Try.underlying22 hi019 hsz19 A0 c0 l0 a1 (of_decide_eq_true (by first | (with_reducible assumption) | assumption)) (of_decide_eq_true (by first | (with_reducible assumption) | assumption)) HC0.out; have HR361 := Aside0.mk (Kd.C_of_reads (h1 := fun _ => rfl) (hA19 _ (Kd.reads_of_C HR0.out))); have HC361 := Aside0.mk hC19; clear hA19 hC19 hi019 hsz19) | ((with_reducible refine gate_builtin (b := .append) (xs := #[.tmp 11, .tmp 14]) rfl ?_); at_builtin; refine Kd.R_append_rows (Kd.int .u8) (w0 := w) w.heap.size rfl (.tmp 11) (.tmp 14) 22 5 (.int .u8 0) 1 rfl Try.underlying22 info5 rfl (by decide) (by omega) v359 y358 (l0.drop (a1 : Int).toNat) _ _ _ (fun _ => True) (fun _ => False) rfl rfl ?aO ?aR (fun _ _ h => h) (fun _ h => h.elim) ?aF ?aB ?aS ?aL ?_; (case aR => first | (rw [← show (l0.drop (a1 : Int).toNat).length = (l0.length - a1.toNat) from List.length_drop]; first | exact bC HR361.out HB.out | exact Kd.C_below HR361.out HB.out) | (first | exact bC HR361.out HB.out | exact Kd.C_below HR361.out HB.out)); (case aB => exact (bw HB.out)); (case aF => exact (fun _ _ => trivial)); (case aO => exact (bR HO360.out)); (case aS => exact (below_size (bw HB.out))); (case aL => have := LMc15.out; have hlx_ := (show (l0.drop (a1 : Int).toNat).length = (l0.length - a1.toNat) from List.length_drop); omega); intro v363 w20 ho hb hg hat; rw [← Ny362.out] at ho; have n0_ := Aside0.mk (hb); have n1_ := Aside0.mk (ho); clear HO360; replace HB := n0_; have HO364 := n1_; clear n0_ n1_; clear ho hb hg hat) | ((with_reducible refine gate_builtin (b := .append) (xs := #[.tmp 15, .tmp 18]) rfl ?_); at_builtin; refine Kd.R_append (Kd.int .u8) (w0 := w) w.heap.size rfl (.tmp 15) (.tmp 18) 22 5 (.int .u8 0) 1 rfl Try.underlying22 info5 rfl (by decide) (by omega) v363 y362 ((a1) % 256) [.int .u8 ((a1) % 256)] (fun _ => True) (fun _ => False) rfl rfl ?aP (fun _ hk => hk.elim) ?aF ?aO ?aB ?aS ?aL ?_; (case aP => exact rfl); (case aB => exact (bw HB.out)); (case aF => exact (fun _ _ => trivial)); (case aO => exact (bR HO364.out)); (case aS => exact (below_size (bw HB.out))); (case aL => have := LMc16.out; omega); intro v366 w21 ho hb hg hat; rw [← Ny365.out] at ho; have n0_ := Aside0.mk (hb); have n1_ := Aside0.mk (ho); clear HO364; replace HB := n0_; have HO367 := n1_; clear n0_ n1_; clear ho hb hg hat))
  go_ret
  exact ⟨_, by first | rfl | (simp [errW_none, errW_some] <;> rfl) | (simp [*, errW_none, errW_some] <;> rfl), by (with_reducible repeat (first | apply Kd.R_alloc | apply Kd.R_drewN | apply Kd.R_drew)); exact HO367.out, bw HB.out⟩
 rw [if_pos c3] at H
 have c3b0 : decide ((l0.length : Int) < a1) = true := decide_eq_true c3
 clear c3
 obtain ⟨y348, hy348⟩ : ∃ y_ : List Int, y_ = (([] : List Int)) := ⟨_, rfl⟩
 replace H : (if 0 ≤ (l0.length : Int) then (if (l0.length : Int) ≤ (l0.length : Int) then (if y348.length + (l0.drop ((l0.length : Int) : Int).toNat).length < 140737488355328 then ((some (y348 ++ (l0.drop ((l0.length : Int) : Int).toNat) : List Int)).bind fun y352 => (if y352.length < 140737488355328 then (some (y352 ++ [((l0.length : Int)) % 256])) else (none))) else (none)) else (none)) else (none)) = some r := by first | (rw [hy348]; with_reducible exact H) | (have H2_ := (Option.bind_some _ _).symm.trans H; rw [hy348]; with_reducible exact H2_) | (have H2_ := (Option.bind_some _ _).symm.trans H; with_reducible exact H2_) | with_reducible exact H | (rw [hy348]; exact H) | exact H
 have Ny348 := Aside0.mk hy348
 clear hy348
 by_cases c4 : 0 ≤ (l0.length : Int)
 rotate_left
 ·rw [if_neg c4] at H
  exact absurd H (by simp)
 rw [if_pos c4] at H
 have c4b0 := eq_true c4
 have c4b1 : decide (0 ≤ (l0.length : Int)) = true := decide_eq_true c4
 clear c4
 by_cases c5 : (l0.length : Int) ≤ (l0.length : Int)
 rotate_left
 ·rw [if_neg c5] at H
  exact absurd H (by simp)
 rw [if_pos c5] at H
 have c5b0 := eq_true c5
 have c5b1 : decide ((l0.length : Int) ≤ (l0.length : Int)) = true := decide_eq_true c5
 clear c5
 by_cases c6 : y348.length + (l0.drop ((l0.length : Int) : Int).toNat).length < 140737488355328
 rotate_left
 ·rw [if_neg c6] at H
  exact absurd H (by simp)
 rw [if_pos c6] at H
 have LMc6 := Aside0.mk c6
 clear c6
 obtain ⟨y352, hy352⟩ : ∃ y_ : List Int, y_ = (y348 ++ (l0.drop ((l0.length : Int) : Int).toNat)) := ⟨_, rfl⟩
 replace H : (if y352.length < 140737488355328 then (some (y352 ++ [((l0.length : Int)) % 256])) else (none)) = some r := by first | (rw [hy352]; with_reducible exact H) | (have H2_ := (Option.bind_some _ _).symm.trans H; rw [hy352]; with_reducible exact H2_) | (have H2_ := (Option.bind_some _ _).symm.trans H; with_reducible exact H2_) | with_reducible exact H | (rw [hy352]; exact H) | exact H
 have Ny352 := Aside0.mk hy352
 clear hy352
 by_cases c7 : y352.length < 140737488355328
 rotate_left
 ·rw [if_neg c7] at H
  exact absurd H (by simp)
 rw [if_pos c7] at H
 have LMc7 := Aside0.mk c7
 clear c7
 obtain ⟨y355, hy355⟩ : ∃ y_ : List Int, y_ = (y352 ++ [((l0.length : Int)) % 256]) := ⟨_, rfl⟩
 replace H : (some y355) = some r := by first | (rw [hy355]; with_reducible exact H) | (have H2_ := (Option.bind_some _ _).symm.trans H; rw [hy355]; with_reducible exact H2_) | (have H2_ := (Option.bind_some _ _).symm.trans H; with_reducible exact H2_) | with_reducible exact H | (rw [hy355]; exact H) | exact H
 have Ny355 := Aside0.mk hy355
 clear hy355
 obtain rfl := Option.some.inj H
 go_enter Try.func9, Try.ntmps9
 go_wp2_with (first | ((with_reducible refine gate_dst (N := 11) rfl ?_); refine Kd.R_lit (Kd.int .u8) _ 5 ?hg (N := 11) ?hd (xs := ([] : List Int)) (inner := []) (ok := fun _ => True) (okp := fun _ => True) ?hr ?hp (fun _ hk => hk) trivial (Below.refl _ _) (Nat.le_refl _) (by simp) ?_; (case hd => rfl); (case hg => rfl); (case hr => first | (go_simp; done) | (go_simp; rfl)); (case hp => exact (Reps.none _ _)); intro v349 w8 ho9 hb hg_ hnew_; clear hg_ hnew_; (first | rw [← Ny348.out] at ho9 | (simp only [Int.reduceToNat] at ho9; rw [← Ny348.out] at ho9)); have n0_ := Aside0.mk (Kd.R_lower ho9 (below_size (bw HB.out))); have n1_ := Aside0.mk (below_step (bw HB.out) hb); have HO350 := n0_; replace HB := n1_; clear n0_ n1_; clear hb ho9; obtain ⟨i010, hi010, _, hsz10, _⟩ := info_parts info5; obtain ⟨A10, hcut10, hA10, hC10⟩ := print_drop_of (P := Try.prog) (Value.int .u8) 0 22 5 .i64 Try.underlying22 hi010 hsz10 A0 c0 l0 (l0.length : Int) (of_decide_eq_true (by first | (with_reducible assumption) | assumption)) (of_decide_eq_true (by first | (with_reducible assumption) | assumption)) HC0.out; have HR351 := Aside0.mk (Kd.C_of_reads (h1 := fun _ => rfl) (hA10 _ (Kd.reads_of_C HR0.out))); have HC351 := Aside0.mk hC10; clear hA10 hC10 hi010 hsz10) | ((with_reducible refine gate_builtin (b := .append) (xs := #[.tmp 11, .tmp 14]) rfl ?_); at_builtin; refine Kd.R_append_rows (Kd.int .u8) (w0 := w) w.heap.size rfl (.tmp 11) (.tmp 14) 22 5 (.int .u8 0) 1 rfl Try.underlying22 info5 rfl (by decide) (by omega) v349 y348 (l0.drop ((l0.length : Int) : Int).toNat) _ _ _ (fun _ => True) (fun _ => False) rfl rfl ?aO ?aR (fun _ _ h => h) (fun _ h => h.elim) ?aF ?aB ?aS ?aL ?_; (case aR => first | (rw [← show (l0.drop ((l0.length : Int) : Int).toNat).length = (l0.length - (l0.length : Int).toNat) from List.length_drop]; first | exact bC HR351.out HB.out | exact Kd.C_below HR351.out HB.out) | (first | exact bC HR351.out HB.out | exact Kd.C_below HR351.out HB.out) | (have h_ := Kd.C_below HR351.out HB.out; rw [show (l0.drop ((l0.length : Int) : Int).toNat).length = 0 from by simp] at h_; exact h_)); (case aB => exact (bw HB.out)); (case aF => exact (fun _ _ => trivial)); (case aO => exact (bR HO350.out)); (case aS => exact (below_size (bw HB.out))); (case aL => have := LMc6.out; have hlx_ := (show (l0.drop ((l0.length : Int) : Int).toNat).length = (l0.length - (l0.length : Int).toNat) from List.length_drop); omega); intro v353 w11 ho hb hg hat; rw [← Ny352.out] at ho; have n0_ := Aside0.mk (hb); have n1_ := Aside0.mk (ho); clear HO350; replace HB := n0_; have HO354 := n1_; clear n0_ n1_; clear ho hb hg hat) | ((with_reducible refine gate_builtin (b := .append) (xs := #[.tmp 15, .tmp 18]) rfl ?_); at_builtin; refine Kd.R_append (Kd.int .u8) (w0 := w) w.heap.size rfl (.tmp 15) (.tmp 18) 22 5 (.int .u8 0) 1 rfl Try.underlying22 info5 rfl (by decide) (by omega) v353 y352 (((l0.length : Int)) % 256) [.int .u8 (((l0.length : Int)) % 256)] (fun _ => True) (fun _ => False) rfl rfl ?aP (fun _ hk => hk.elim) ?aF ?aO ?aB ?aS ?aL ?_; (case aP => exact rfl); (case aB => exact (bw HB.out)); (case aF => exact (fun _ _ => trivial)); (case aO => exact (bR HO354.out)); (case aS => exact (below_size (bw HB.out))); (case aL => have := LMc7.out; omega); intro v356 w12 ho hb hg hat; rw [← Ny355.out] at ho; have n0_ := Aside0.mk (hb); have n1_ := Aside0.mk (ho); clear HO354; replace HB := n0_; have HO357 := n1_; clear n0_ n1_; clear ho hb hg hat))
 go_ret
 exact ⟨_, by first | rfl | (simp [errW_none, errW_some] <;> rfl) | (simp [*, errW_none, errW_some] <;> rfl), by (with_reducible repeat (first | apply Kd.R_alloc | apply Kd.R_drewN | apply Kd.R_drew)); exact HO357.out, bw HB.out⟩

/-! ### impl_StretchedJobs: function 10 -/
mutual
def impl_StretchedJobs.j0 : Nat → List (S38) → Int → Bool → Option ((List (S38)) × Bool)
 | 0, _, _, _ => none
 | k + 1, x0, x1, x16 => if x16 = true then (some (([] : List (S38)), false)) else (impl_StretchedJobs.l0 k x1 ([] : List (S38)) x0 (x0.length : Int) 0)
def impl_StretchedJobs.l0 : Nat → Int → List (S38) → List (S38) → Int → Int → Option ((List (S38)) × Bool)
 | 0, _, _, _, _, _ => none
 | k + 1, x1, x6, x17, x18, x19 => if x19 < x18 then (if 0 ≤ x19 then (if x19 < (x17.length : Int) then (if x6.length < 4398046511104 then (impl_StretchedJobs.l0 k x1 (x6 ++ [(⟨wrap64 (x1 * ((rd_T38 x17 x19).f0)), (rd_T38 x17 x19).f1, wrap64 (x1 * ((rd_T38 x17 x19).f2)), wrap64 (x1 * ((rd_T38 x17 x19).f3))⟩ : S38)]) x17 x18 (wrap64 (x19 + 1))) else (none)) else (none)) else (none)) else ((impl_IsJobs.f k x6).bind fun t375 => (if t375 = true then (some (x6, true)) else (some (([] : List (S38)), false))))
end
def impl_StretchedJobs.f (k : Nat) (l0 : List (S38)) (a1 : Int) : Option ((List (S38)) × Bool) := (impl_IsJobs.f k l0).bind fun t368 => (if t368 = true then ((impl_within.f a1 1 10).bind fun t369 => (impl_StretchedJobs.j0 k l0 a1 (!t369))) else (impl_StretchedJobs.j0 k l0 a1 true))
theorem impl_StretchedJobs.mono_l : ∀ k, (∀ y0 y1 y2, LeO (impl_StretchedJobs.j0 k y0 y1 y2) (impl_StretchedJobs.j0 (k + 1) y0 y1 y2)) ∧ (∀ y0 y1 y2 y3 y4, LeO (impl_StretchedJobs.l0 k y0 y1 y2 y3 y4) (impl_StretchedJobs.l0 (k + 1) y0 y1 y2 y3 y4))
 | 0 => ⟨fun _ _ _ r h => by simp [impl_StretchedJobs.j0] at h, fun _ _ _ _ _ r h => by simp [impl_StretchedJobs.l0] at h⟩
 | k + 1 => by
  obtain ⟨ih0, ih1⟩ := impl_StretchedJobs.mono_l k
  refine ⟨?_, ?_⟩
  ·intro y0 y1 y2
   unfold impl_StretchedJobs.j0
   repeat' first
   | (with_reducible exact ih0 _ _ _)
   | (with_reducible exact ih1 _ _ _ _ _)
   | (with_reducible exact impl_IsJobs.mono _ _)
   | (with_reducible exact LeO.refl _)
   | (with_reducible exact LeO.none _)
   | (with_reducible refine LeO.ite ?_ ?_)
   | (with_reducible refine LeO.bind ?_ (fun _ => ?_))
   | exact ih0 _ _ _
   | exact ih1 _ _ _ _ _
   | exact impl_IsJobs.mono _ _
   | exact LeO.none _
   | refine LeO.ite ?_ ?_
   | refine LeO.bind ?_ (fun _ => ?_)
  ·intro y0 y1 y2 y3 y4
   unfold impl_StretchedJobs.l0
   repeat' first
   | (with_reducible exact ih0 _ _ _)
   | (with_reducible exact ih1 _ _ _ _ _)
   | (with_reducible exact impl_IsJobs.mono _ _)
   | (with_reducible exact LeO.refl _)
   | (with_reducible exact LeO.none _)
   | (with_reducible refine LeO.ite ?_ ?_)
   | (with_reducible refine LeO.bind ?_ (fun _ => ?_))
   | exact ih0 _ _ _
   | exact ih1 _ _ _ _ _
   | exact impl_IsJobs.mono _ _
   | exact LeO.none _
   | refine LeO.ite ?_ ?_
   | refine LeO.bind ?_ (fun _ => ?_)
theorem impl_StretchedJobs.mono : ∀ a0 a1 k, LeO (impl_StretchedJobs.f k a0 a1) (impl_StretchedJobs.f (k + 1) a0 a1) := by
 intro a0 a1 k
 obtain ⟨ih0, ih1⟩ := impl_StretchedJobs.mono_l k
 unfold impl_StretchedJobs.f
 repeat' first
   | (with_reducible exact ih0 _ _ _)
   | (with_reducible exact ih1 _ _ _ _ _)
   | (with_reducible exact impl_IsJobs.mono _ _)
   | (with_reducible exact LeO.refl _)
   | (with_reducible exact LeO.none _)
   | (with_reducible refine LeO.ite ?_ ?_)
   | (with_reducible refine LeO.bind ?_ (fun _ => ?_))
   | exact ih0 _ _ _
   | exact ih1 _ _ _ _ _
   | exact impl_IsJobs.mono _ _
   | exact LeO.none _
   | refine LeO.ite ?_ ?_
   | refine LeO.bind ?_ (fun _ => ?_)
set_option maxHeartbeats 8000000 in
set_option maxRecDepth 100000 in
theorem impl_StretchedJobs.calls (k : Nat) (A0 : Option Addr) (c0 : Nat) (l0 : List (S38)) (a1 : Int) (r1 : List (S38)) (r2 : Bool) (w : World) (hr0 : Kd.C k38 w A0 l0.length l0) (hc0 : l0.length ≤ c0) (h : impl_StretchedJobs.f k l0 a1 = some (r1, r2)) :
  Calls Try.prog 10 #[.slice A0 l0.length c0, .int .i64 a1] w fun e w' => ∃ v0_ : Value, e = .returned (.tuple #[v0_, .bool r2]) ∧ Kd.R k38 38 w' w.heap.size (fun _ => True) v0_ r1 ∧ Below w.heap.size w w' := by
 have hu38 := Try.underlying38
 have HR0 := Aside0.mk hr0
 have HC0 := Aside0.mk hc0
 clear hr0 hc0
 have HB := Aside0.mk (Below.refl w.heap.size w)
 have H : ((impl_IsJobs.f k l0).bind fun t368 => (if t368 = true then ((impl_within.f a1 1 10).bind fun t369 => (impl_StretchedJobs.j0 k l0 a1 (!t369))) else (impl_StretchedJobs.j0 k l0 a1 true))) = some (r1, r2) := h
 clear h
 have HC3 := Aside0.mk H
 clear H
 go_enter Try.func10, Try.ntmps10
 go_upto_region 1 with (fail)
 go_cut [16] (fun v16 wc => ∃ (kq : Nat) (x16_2 : Bool), v16 = .bool x16_2 ∧ Aside0 (impl_StretchedJobs.j0 kq l0 a1 x16_2 = some (r1, r2)) ∧ Aside0 (kq ≤ k) ∧ Aside0 (Below w.heap.size w wc))
 case first =>
  have H := HC3.out
  clear HC3
  replace H := Option.bind_eq_some_iff.mp H
  obtain ⟨t368, A40, H⟩ := H
  replace H : (if t368 = true then ((impl_within.f a1 1 10).bind fun t369 => (impl_StretchedJobs.j0 k l0 a1 (!t369))) else (impl_StretchedJobs.j0 k l0 a1 true)) = some (r1, r2) := H
  have A4 := Aside0.mk A40
  clear A40
  by_cases c5 : t368 = true
  rotate_left
  ·replace c5 := Bool.eq_false_iff.mpr c5
   subst c5
   have H1 : (impl_StretchedJobs.j0 k l0 a1 true) = some (r1, r2) := by rw [if_neg (show ¬ (false = true) by decide)] at H; exact H
   clear H
   have H := H1
   clear H1
   have H' := Aside0.mk H
   clear H
   go_wp2_with (first | ((with_reducible refine gate_callee (f := 29) rfl ?_); refine goesL_ (some 10) rfl rfl Try.func29 (by kernel_rfl) rfl #[.slice A0 l0.length c0] rfl (by (try simp only [mA_]); first | done | rfl | (simp only [List.length_drop, List.length_take]; rfl)) ?_; (with_reducible refine (impl_IsJobs.calls k _ _ l0 false _ ?side1 ?side2 A4.out).mono ?_); (case side1 => first | exact bC HR0.out HB.out | exact Kd.C_below HR0.out HB.out); (case side2 => exact HC0.out); rintro e w8 ⟨rfl, hb⟩; refine ⟨_, rfl, ?_⟩; have n0_ := Aside0.mk (below_step (bw HB.out) hb); replace HB := n0_; clear n0_; (try clear hb); (try clear hb2); (try clear hk); (try clear hi)))
   go_meet
   case rel => exact ⟨_, (true), (by first | rfl | (simp; done) | (simp [*]; done)), H', ⟨by first | omega | exact Nat.le_refl _⟩, ⟨bw HB.out⟩⟩
  subst c5
  have H1 : ((impl_within.f a1 1 10).bind fun t369 => (impl_StretchedJobs.j0 k l0 a1 (!t369))) = some (r1, r2) := by rw [if_pos rfl] at H; exact H
  clear H
  have H := H1
  clear H1
  replace H := Option.bind_eq_some_iff.mp H
  obtain ⟨t369, A60, H⟩ := H
  replace H : (impl_StretchedJobs.j0 k l0 a1 (!t369)) = some (r1, r2) := H
  have A6 := Aside0.mk A60
  clear A60
  have H' := Aside0.mk H
  clear H
  go_wp2_with (first | ((with_reducible refine gate_callee (f := 29) rfl ?_); refine goesL_ (some 10) rfl rfl Try.func29 (by kernel_rfl) rfl #[.slice A0 l0.length c0] rfl (by (try simp only [mA_]); first | done | rfl | (simp only [List.length_drop, List.length_take]; rfl)) ?_; (with_reducible refine (impl_IsJobs.calls k _ _ l0 true _ ?side1 ?side2 A4.out).mono ?_); (case side1 => first | exact bC HR0.out HB.out | exact Kd.C_below HR0.out HB.out); (case side2 => exact HC0.out); rintro e w7 ⟨rfl, hb⟩; refine ⟨_, rfl, ?_⟩; have n0_ := Aside0.mk (below_step (bw HB.out) hb); replace HB := n0_; clear n0_; (try clear hb); (try clear hb2); (try clear hk); (try clear hi)) | (go_at_call 30; (with_reducible refine (impl_within.calls a1 1 10 t369 _ A6.out).mono ?_); rintro e w' ⟨rfl, ⟨nd, rfl⟩⟩))
  go_meet
  case rel => exact ⟨_, (!t369), (by first | rfl | (simp; done) | (simp [*]; done)), H', ⟨by first | omega | exact Nat.le_refl _⟩, ⟨bw HB.out⟩⟩
 case rest =>
  clear HC3
  try clear c1
  try clear c2
  try clear p2
  try clear c5
  obtain ⟨kq, x16_2, rfl, HA, HJ2, HB⟩ := hcut
  cases kq with
  | zero => exact absurd HA.out (by simp [impl_StretchedJobs.j0])
  | succ kj2 =>
   have H := HA.out
   clear HA
   simp only [impl_StretchedJobs.j0] at H
   by_cases c9 : x16_2 = true
   ·subst c9
    have H1 : (some (([] : List (S38)), false)) = some (r1, r2) := by rw [if_pos rfl] at H; exact H
    clear H
    have H := H1
    clear H1
    simp only [Option.some.injEq, Prod.mk.injEq] at H
    obtain ⟨rfl, rfl⟩ := H
    go_wp2
    go_ret2
    exact ⟨_, by first | rfl | (simp [errW_none, errW_some] <;> rfl) | (simp [*, errW_none, errW_some] <;> rfl), by first | exact Kd.R_nil _ _ _ _ _ | exact Kd.N_nil _ _ _ _ _ | exact Kd.V_nil _ _ _ _ _ | exact Kd.Q_nil _ _ _ _ _ | exact Kd.S_nil _ _ _ _ _, bw HB.out⟩
   replace c9 := Bool.eq_false_iff.mpr c9
   subst c9
   have H1 : (impl_StretchedJobs.l0 kj2 a1 ([] : List (S38)) l0 (l0.length : Int) 0) = some (r1, r2) := by rw [if_neg (show ¬ (false = true) by decide)] at H; exact H
   clear H
   have H := H1
   clear H1
   have H' := Aside0.mk H
   clear H
   go_wp2
   go_loopg [6, 19] kj2 (fun kq v6 v19 w' => ∃ (x6_2 : List (S38)) (x19_2 : Int), v19 = .int .i64 x19_2 ∧ Aside0 (impl_StretchedJobs.l0 kq a1 x6_2 l0 (l0.length : Int) x19_2 = some (r1, r2)) ∧ Aside0 (kq ≤ kj2) ∧ Aside0 (Kd.R k38 38 w' w.heap.size (fun _ => True) v6 x6_2) ∧ Aside0 (Below w.heap.size w w'))
   case atStart => exact ⟨(([] : List (S38))), (0), (by first | rfl | (simp; done) | (simp [*]; done)), H', ⟨Nat.le_refl _⟩, ⟨by first | exact Kd.R_nil _ _ _ _ _ | exact Kd.N_nil _ _ _ _ _ | exact Kd.V_nil _ _ _ _ _ | exact Kd.Q_nil _ _ _ _ _ | exact Kd.S_nil _ _ _ _ _⟩, ⟨bw HB.out⟩⟩
   case round =>
    clear H'
    try clear c1
    try clear c2
    try clear p2
    try clear c5
    try clear c9
    try clear p2
    obtain ⟨x6_2, x19_2, rfl, HA, HK2, HO_6, HB⟩ := hrel
    cases gk with
    | zero => exact absurd HA.out (by simp [impl_StretchedJobs.l0])
    | succ k2 =>
     have H := HA.out
     clear HA
     simp only [impl_StretchedJobs.l0] at H
     by_cases c10 : x19_2 < (l0.length : Int)
     rotate_left
     ·rw [if_neg c10] at H
      have c10b0 : decide (x19_2 < (l0.length : Int)) = false := decide_eq_false c10
      clear c10
      replace H := Option.bind_eq_some_iff.mp H
      obtain ⟨t375, A170, H⟩ := H
      replace H : (if t375 = true then (some (x6_2, true)) else (some (([] : List (S38)), false))) = some (r1, r2) := H
      have A17 := Aside0.mk A170
      clear A170
      by_cases c18 : t375 = true
      ·subst c18
       have H1 : (some (x6_2, true)) = some (r1, r2) := by rw [if_pos rfl] at H; exact H
       clear H
       have H := H1
       clear H1
       simp only [Option.some.injEq, Prod.mk.injEq] at H
       obtain ⟨rfl, rfl⟩ := H
       obtain ⟨Ao19, co19, eo19⟩ := Kd.R_slice HO_6.out
       subst eo19
       go_wp2_with (first | ((with_reducible refine gate_callee (f := 29) rfl ?_); refine goesL_ (some 43) rfl rfl Try.func29 (by kernel_rfl) rfl #[.slice Ao19 x6_2.length co19] rfl (by (try simp only [mA_]); first | done | rfl | (simp only [List.length_drop, List.length_take]; rfl)) ?_; (with_reducible refine (impl_IsJobs.calls k2 _ _ x6_2 true _ ?side1 ?side2 A17.out).mono ?_); (case side1 => repeat (first | exact (Kd.R_reads' HO_6.out).2.2 | (with_reducible refine Kd.C_alloc ?_ _) | (with_reducible refine Kd.C_drewN ?_ _) | (with_reducible refine Kd.C_drew ?_))); (case side2 => exact (Kd.R_reads' HO_6.out).2.1); rintro e w20 ⟨rfl, hb⟩; refine ⟨_, rfl, ?_⟩; have n0_ := Aside0.mk (Kd.R_below (bR HO_6.out) hb); have n1_ := Aside0.mk (below_step (bw HB.out) hb); replace HO_6 := n0_; replace HB := n1_; clear n0_ n1_; (try clear hb); (try clear hb2); (try clear hk); (try clear hi)))
       go_ret2
       exact ⟨_, by first | rfl | (simp [errW_none, errW_some] <;> rfl) | (simp [*, errW_none, errW_some] <;> rfl), by (with_reducible repeat (first | apply Kd.R_alloc | apply Kd.R_drewN | apply Kd.R_drew)); exact HO_6.out, bw HB.out⟩
      replace c18 := Bool.eq_false_iff.mpr c18
      subst c18
      have H1 : (some (([] : List (S38)), false)) = some (r1, r2) := by rw [if_neg (show ¬ (false = true) by decide)] at H; exact H
      clear H
      have H := H1
      clear H1
      simp only [Option.some.injEq, Prod.mk.injEq] at H
      obtain ⟨rfl, rfl⟩ := H
      obtain ⟨Ao21, co21, eo21⟩ := Kd.R_slice HO_6.out
      subst eo21
      go_wp2_with (first | ((with_reducible refine gate_callee (f := 29) rfl ?_); refine goesL_ (some 43) rfl rfl Try.func29 (by kernel_rfl) rfl #[.slice Ao21 x6_2.length co21] rfl (by (try simp only [mA_]); first | done | rfl | (simp only [List.length_drop, List.length_take]; rfl)) ?_; (with_reducible refine (impl_IsJobs.calls k2 _ _ x6_2 false _ ?side1 ?side2 A17.out).mono ?_); (case side1 => repeat (first | exact (Kd.R_reads' HO_6.out).2.2 | (with_reducible refine Kd.C_alloc ?_ _) | (with_reducible refine Kd.C_drewN ?_ _) | (with_reducible refine Kd.C_drew ?_))); (case side2 => exact (Kd.R_reads' HO_6.out).2.1); rintro e w22 ⟨rfl, hb⟩; refine ⟨_, rfl, ?_⟩; have n0_ := Aside0.mk (Kd.R_below (bR HO_6.out) hb); have n1_ := Aside0.mk (below_step (bw HB.out) hb); replace HO_6 := n0_; replace HB := n1_; clear n0_ n1_; (try clear hb); (try clear hb2); (try clear hk); (try clear hi)))
      go_ret2
      exact ⟨_, by first | rfl | (simp [errW_none, errW_some] <;> rfl) | (simp [*, errW_none, errW_some] <;> rfl), by first | exact Kd.R_nil _ _ _ _ _ | exact Kd.N_nil _ _ _ _ _ | exact Kd.V_nil _ _ _ _ _ | exact Kd.Q_nil _ _ _ _ _ | exact Kd.S_nil _ _ _ _ _, bw HB.out⟩
     rw [if_pos c10] at H
     have c10b0 : decide (x19_2 < (l0.length : Int)) = true := decide_eq_true c10
     clear c10
     by_cases c11 : 0 ≤ x19_2
     rotate_left
     ·rw [if_neg c11] at H
      exact absurd H (by simp)
     rw [if_pos c11] at H
     have c11b0 : decide (0 ≤ x19_2) = true := decide_eq_true c11
     clear c11
     by_cases c12 : x19_2 < (l0.length : Int)
     rotate_left
     ·rw [if_neg c12] at H
      exact absurd H (by simp)
     rw [if_pos c12] at H
     have c12b0 : decide (x19_2 < (l0.length : Int)) = true := decide_eq_true c12
     clear c12
     by_cases c13 : x6_2.length < 4398046511104
     rotate_left
     ·rw [if_neg c13] at H
      exact absurd H (by simp)
     rw [if_pos c13] at H
     have LMc13 := Aside0.mk c13
     clear c13
     obtain ⟨y372, hy372⟩ : ∃ y_ : List (S38), y_ = (x6_2 ++ [(⟨wrap64 (a1 * ((rd_T38 l0 x19_2).f0)), (rd_T38 l0 x19_2).f1, wrap64 (a1 * ((rd_T38 l0 x19_2).f2)), wrap64 (a1 * ((rd_T38 l0 x19_2).f3))⟩ : S38)]) := ⟨_, rfl⟩
     replace H : (impl_StretchedJobs.l0 k2 a1 y372 l0 (l0.length : Int) (wrap64 (x19_2 + 1))) = some (r1, r2) := by first | (rw [hy372]; with_reducible exact H) | (have H2_ := (Option.bind_some _ _).symm.trans H; rw [hy372]; with_reducible exact H2_) | (have H2_ := (Option.bind_some _ _).symm.trans H; with_reducible exact H2_) | with_reducible exact H | (rw [hy372]; exact H) | exact H
     have Ny372 := Aside0.mk hy372
     clear hy372
     have H' := Aside0.mk H
     clear H
     have p370 : 0 ≤ (x19_2 : Int) := of_decide_eq_true (by first | (with_reducible assumption) | assumption)
     have q370 : x19_2 < (l0.length : Int) := of_decide_eq_true (by first | (with_reducible assumption) | assumption)
     obtain ⟨ad370, e370, hx370_0, hx370_1, hx370_2, hx370_3⟩ := at_T38 HR0.out x19_2 p370 q370
     cases e370
     replace hx370_0 := (HB.out.cell (World.block_lt_of_cell? w _ hx370_0)).trans hx370_0
     replace hx370_1 := (HB.out.cell (World.block_lt_of_cell? w _ hx370_1)).trans hx370_1
     replace hx370_2 := (HB.out.cell (World.block_lt_of_cell? w _ hx370_2)).trans hx370_2
     replace hx370_3 := (HB.out.cell (World.block_lt_of_cell? w _ hx370_3)).trans hx370_3
     replace p370 := eq_true p370
     replace q370 := eq_true q370
     go_wp2_with (first | ((with_reducible refine gate_dst (N := 8) rfl ?_); refine box_event ?hg (N := 8) ?hd (cs := #[.int .i64 0, .int .i64 0, .int .i64 0, .int .i64 0]) (t := 38) ?hr ?_; (case hd => rfl); (case hg => rfl); (case hr => first | (go_simp; done) | (go_simp; rfl)); intro gb371 hg w14 hbox hb; have n0_ := Aside0.mk (Kd.R_below (Kd.R_elderB (bR HO_6.out) gb371 (Nat.le_of_eq hg.symm)) hb); have n1_ := Aside0.mk (below_step (bw HB.out) hb); have n2_ := Aside0.mk (hbox); have n3_ := ge_ hg HB.out; have n4_ := ge_ hg HB.out; replace HO_6 := n0_; replace HB := n1_; have BK371 := n2_; have GW371 := n3_; have GE371 := n4_; clear n0_ n1_ n2_ n3_ n4_; clear hb hbox hg; obtain ⟨hcz15_0, hcz15_1, hcz15_2, hcz15_3, hfz15_0, hfz15_1, hfz15_2, hfz15_3⟩ := bz4 BK371.out) | ((with_reducible refine gate_builtin (b := .append) (xs := #[.tmp 23, .tmp 39]) rfl ?_); at_builtin; refine Kd.R_append k38 (w0 := w) w.heap.size rfl (.tmp 23) (.tmp 39) 24 38 (.agg #[(.int .i64 0), (.int .i64 0), (.int .i64 0), (.int .i64 0)]) 32 rfl Try.underlying24 info38 rfl (by decide) (by omega) u6 x6_2 (⟨wrap64 (a1 * ((rd_T38 l0 x19_2).f0)), (rd_T38 l0 x19_2).f1, wrap64 (a1 * ((rd_T38 l0 x19_2).f2)), wrap64 (a1 * ((rd_T38 l0 x19_2).f3))⟩ : S38) [.int .i64 (wrap64 (a1 * ((rd_T38 l0 x19_2).f0))), .int .i64 ((rd_T38 l0 x19_2).f1), .int .i64 (wrap64 (a1 * ((rd_T38 l0 x19_2).f2))), .int .i64 (wrap64 (a1 * ((rd_T38 l0 x19_2).f3)))] (fun k_ => k_ ≠ gb371) (fun _ => False) rfl (by first | (go_simp; done) | (go_simp; rfl)) ?aP (fun _ hk => hk.elim) ?aF ?aO ?aB ?aS ?aL ?_; (case aP => exact k38_mkM _ _ _ (⟨wrap64 (a1 * ((rd_T38 l0 x19_2).f0)), (rd_T38 l0 x19_2).f1, wrap64 (a1 * ((rd_T38 l0 x19_2).f2)), wrap64 (a1 * ((rd_T38 l0 x19_2).f3))⟩ : S38)); (case aB => exact (by repeat (first | (with_reducible first | exact bw HB.out | refine bset ?_ | apply bA | apply bN | apply bD) | exact HB.out))); (case aF => exact (fun k_ hk => Kd.freshB (g := gb371) (o := .cells #[.int .i64 ((rd_T38 l0 x19_2).f0), .int .i64 ((rd_T38 l0 x19_2).f1), .int .i64 ((rd_T38 l0 x19_2).f2), .int .i64 ((rd_T38 l0 x19_2).f3)] 38 (0, 0)) (by (with_reducible repeat (first | refine blk_drewN ?_ _ | refine blk_drew ?_ | refine blk_alloc ?_ _)); refine blk_put (cs := #[.int .i64 ((rd_T38 l0 x19_2).f0), .int .i64 ((rd_T38 l0 x19_2).f1), .int .i64 ((rd_T38 l0 x19_2).f2), .int .i64 0]) ?_ 3 _ rfl; (with_reducible repeat (first | refine blk_drewN ?_ _ | refine blk_drew ?_ | refine blk_alloc ?_ _)); refine blk_put (cs := #[.int .i64 ((rd_T38 l0 x19_2).f0), .int .i64 ((rd_T38 l0 x19_2).f1), .int .i64 0, .int .i64 0]) ?_ 2 _ rfl; (with_reducible repeat (first | refine blk_drewN ?_ _ | refine blk_drew ?_ | refine blk_alloc ?_ _)); refine blk_put (cs := #[.int .i64 ((rd_T38 l0 x19_2).f0), .int .i64 0, .int .i64 0, .int .i64 0]) ?_ 1 _ rfl; (with_reducible repeat (first | refine blk_drewN ?_ _ | refine blk_drew ?_ | refine blk_alloc ?_ _)); refine blk_put (cs := #[.int .i64 0, .int .i64 0, .int .i64 0, .int .i64 0]) ?_ 0 _ rfl; exact bs BK371.out) k_ hk)); (case aO => exact (by (with_reducible repeat (first | apply Kd.R_alloc | apply Kd.R_drewN | apply Kd.R_drew)); exact Kd.R_mono (Kd.R_far (p := ⟨gb371, 3, none⟩) (Kd.R_far (p := ⟨gb371, 2, none⟩) (Kd.R_far (p := ⟨gb371, 1, none⟩) (Kd.R_far (p := ⟨gb371, 0, none⟩) (Kd.R_mono HO_6.out (fun k_ hk => (⟨hk, hk.2⟩ : _ ∧ k_ ≠ gb371))) (fun _ hk => hk.2) (.int .i64 ((rd_T38 l0 x19_2).f0))) (fun _ hk => hk.2) (.int .i64 ((rd_T38 l0 x19_2).f1))) (fun _ hk => hk.2) (.int .i64 ((rd_T38 l0 x19_2).f2))) (fun _ hk => hk.2) (.int .i64 ((rd_T38 l0 x19_2).f3))) (fun _ hk => hk.1.2))); (case aS => exact (below_size (by repeat (first | (with_reducible first | exact bw HB.out | refine bset ?_ | apply bA | apply bN | apply bD) | exact HB.out)))); (case aL => have := LMc13.out; omega); intro v373 w16 ho hb hg hat; rw [← Ny372.out] at ho; have n0_ := Aside0.mk (blk_grown (g := gb371) (o := .cells #[.int .i64 ((rd_T38 l0 x19_2).f0), .int .i64 ((rd_T38 l0 x19_2).f1), .int .i64 ((rd_T38 l0 x19_2).f2), .int .i64 ((rd_T38 l0 x19_2).f3)] 38 (0, 0)) (by (with_reducible repeat (first | refine blk_drewN ?_ _ | refine blk_drew ?_ | refine blk_alloc ?_ _)); refine blk_put (cs := #[.int .i64 ((rd_T38 l0 x19_2).f0), .int .i64 ((rd_T38 l0 x19_2).f1), .int .i64 ((rd_T38 l0 x19_2).f2), .int .i64 0]) ?_ 3 _ rfl; (with_reducible repeat (first | refine blk_drewN ?_ _ | refine blk_drew ?_ | refine blk_alloc ?_ _)); refine blk_put (cs := #[.int .i64 ((rd_T38 l0 x19_2).f0), .int .i64 ((rd_T38 l0 x19_2).f1), .int .i64 0, .int .i64 0]) ?_ 2 _ rfl; (with_reducible repeat (first | refine blk_drewN ?_ _ | refine blk_drew ?_ | refine blk_alloc ?_ _)); refine blk_put (cs := #[.int .i64 ((rd_T38 l0 x19_2).f0), .int .i64 0, .int .i64 0, .int .i64 0]) ?_ 1 _ rfl; (with_reducible repeat (first | refine blk_drewN ?_ _ | refine blk_drew ?_ | refine blk_alloc ?_ _)); refine blk_put (cs := #[.int .i64 0, .int .i64 0, .int .i64 0, .int .i64 0]) ?_ 0 _ rfl; exact bs BK371.out) hg (Kd.R_away HO_6.out (fun _ hk => hk.2))); have n1_ := Aside0.mk (hb); have n2_ := Aside0.mk (ho); clear HO_6; replace BK371 := n0_; replace HB := n1_; have HO374 := n2_; clear n0_ n1_ n2_; clear ho hb hg hat))
     go_roundg k2
     case measure => have := HJ2.out; have := HK2.out; omega
     case rel => exact ⟨(y372), (wrap64 (x19_2 + 1)), (by first | rfl | (simp; done) | (simp [*]; done)), H', ⟨by have := HJ2.out; have := HK2.out; omega⟩, ⟨by (with_reducible repeat (first | apply Kd.R_alloc | apply Kd.R_drewN | apply Kd.R_drew)); exact Kd.R_mono HO374.out (fun _ hk => trivial)⟩, ⟨by repeat (first | (with_reducible first | exact bw HB.out | refine bset ?_ | apply bA | apply bN | apply bD) | exact HB.out)⟩⟩

/-! ### spec_StretchedJobs: function 11 -/
mutual
def spec_StretchedJobs.j0 : Nat → List (S38) → Int → List (S38) → Bool → Option ((List (S38)) × Bool)
 | 0, _, _, _, _ => none
 | k + 1, x0, x1, x6, x17 => if x17 = true then (some (x6, false)) else (spec_StretchedJobs.l0 k x0 x1 x6 0)
def spec_StretchedJobs.l0 : Nat → List (S38) → Int → List (S38) → Int → Option ((List (S38)) × Bool)
 | 0, _, _, _, _ => none
 | k + 1, x0, x1, x6, x7 => if x7 < (x0.length : Int) then (if 0 ≤ x7 then (if x6.length < 4398046511104 then (spec_StretchedJobs.l0 k x0 x1 (x6 ++ [(⟨wrap64 (((rd_T38 x0 x7).f0) * x1), (rd_T38 x0 x7).f1, wrap64 (((rd_T38 x0 x7).f2) * x1), wrap64 (((rd_T38 x0 x7).f3) * x1)⟩ : S38)]) (wrap64 (x7 + 1))) else (none)) else (none)) else ((spec_l2Good.f k x6).bind fun t386 => (if t386 = true then (some (x6, true)) else (some ((([] : List (S38))), false))))
end
def spec_StretchedJobs.f (k : Nat) (l0 : List (S38)) (a1 : Int) : Option ((List (S38)) × Bool) := (some (([] : List (S38)) : List (S38))).bind fun y376 => ((spec_l2Good.f k l0).bind fun t379 => (if t379 = true then ((spec_l1In.f a1 1 10).bind fun t380 => (spec_StretchedJobs.j0 k l0 a1 y376 (!t380))) else (spec_StretchedJobs.j0 k l0 a1 y376 true)))
theorem spec_StretchedJobs.mono_l : ∀ k, (∀ y0 y1 y2 y3, LeO (spec_StretchedJobs.j0 k y0 y1 y2 y3) (spec_StretchedJobs.j0 (k + 1) y0 y1 y2 y3)) ∧ (∀ y0 y1 y2 y3, LeO (spec_StretchedJobs.l0 k y0 y1 y2 y3) (spec_StretchedJobs.l0 (k + 1) y0 y1 y2 y3))
 | 0 => ⟨fun _ _ _ _ r h => by simp [spec_StretchedJobs.j0] at h, fun _ _ _ _ r h => by simp [spec_StretchedJobs.l0] at h⟩
 | k + 1 => by
  obtain ⟨ih0, ih1⟩ := spec_StretchedJobs.mono_l k
  refine ⟨?_, ?_⟩
  ·intro y0 y1 y2 y3
   unfold spec_StretchedJobs.j0
   repeat' first
   | (with_reducible exact ih0 _ _ _ _)
   | (with_reducible exact ih1 _ _ _ _)
   | (with_reducible exact spec_l2Good.mono _ _)
   | (with_reducible exact LeO.refl _)
   | (with_reducible exact LeO.none _)
   | (with_reducible refine LeO.ite ?_ ?_)
   | (with_reducible refine LeO.bind ?_ (fun _ => ?_))
   | exact ih0 _ _ _ _
   | exact ih1 _ _ _ _
   | exact spec_l2Good.mono _ _
   | exact LeO.none _
   | refine LeO.ite ?_ ?_
   | refine LeO.bind ?_ (fun _ => ?_)
  ·intro y0 y1 y2 y3
   unfold spec_StretchedJobs.l0
   repeat' first
   | (with_reducible exact ih0 _ _ _ _)
   | (with_reducible exact ih1 _ _ _ _)
   | (with_reducible exact spec_l2Good.mono _ _)
   | (with_reducible exact LeO.refl _)
   | (with_reducible exact LeO.none _)
   | (with_reducible refine LeO.ite ?_ ?_)
   | (with_reducible refine LeO.bind ?_ (fun _ => ?_))
   | exact ih0 _ _ _ _
   | exact ih1 _ _ _ _
   | exact spec_l2Good.mono _ _
   | exact LeO.none _
   | refine LeO.ite ?_ ?_
   | refine LeO.bind ?_ (fun _ => ?_)
theorem spec_StretchedJobs.mono : ∀ a0 a1 k, LeO (spec_StretchedJobs.f k a0 a1) (spec_StretchedJobs.f (k + 1) a0 a1) := by
 intro a0 a1 k
 obtain ⟨ih0, ih1⟩ := spec_StretchedJobs.mono_l k
 unfold spec_StretchedJobs.f
 repeat' first
   | (with_reducible exact ih0 _ _ _ _)
   | (with_reducible exact ih1 _ _ _ _)
   | (with_reducible exact spec_l2Good.mono _ _)
   | (with_reducible exact LeO.refl _)
   | (with_reducible exact LeO.none _)
   | (with_reducible refine LeO.ite ?_ ?_)
   | (with_reducible refine LeO.bind ?_ (fun _ => ?_))
   | exact ih0 _ _ _ _
   | exact ih1 _ _ _ _
   | exact spec_l2Good.mono _ _
   | exact LeO.none _
   | refine LeO.ite ?_ ?_
   | refine LeO.bind ?_ (fun _ => ?_)
set_option maxHeartbeats 8000000 in
set_option maxRecDepth 100000 in
theorem spec_StretchedJobs.calls (k : Nat) (A0 : Option Addr) (c0 : Nat) (l0 : List (S38)) (a1 : Int) (r1 : List (S38)) (r2 : Bool) (w : World) (hr0 : Kd.C k38 w A0 l0.length l0) (hc0 : l0.length ≤ c0) (h : spec_StretchedJobs.f k l0 a1 = some (r1, r2)) :
  Calls Try.prog 11 #[.slice A0 l0.length c0, .int .i64 a1] w fun e w' => ∃ v0_ : Value, e = .returned (.tuple #[v0_, .bool r2]) ∧ Kd.R k38 38 w' w.heap.size (fun _ => True) v0_ r1 ∧ Below w.heap.size w w' := by
 have hu38 := Try.underlying38
 have HR0 := Aside0.mk hr0
 have HC0 := Aside0.mk hc0
 clear hr0 hc0
 have HB := Aside0.mk (Below.refl w.heap.size w)
 have H : ((some (([] : List (S38)) : List (S38))).bind fun y376 => ((spec_l2Good.f k l0).bind fun t379 => (if t379 = true then ((spec_l1In.f a1 1 10).bind fun t380 => (spec_StretchedJobs.j0 k l0 a1 y376 (!t380))) else (spec_StretchedJobs.j0 k l0 a1 y376 true)))) = some (r1, r2) := h
 clear h
 obtain ⟨y376, hy376⟩ : ∃ y_ : List (S38), y_ = (([] : List (S38))) := ⟨_, rfl⟩
 replace H : ((spec_l2Good.f k l0).bind fun t379 => (if t379 = true then ((spec_l1In.f a1 1 10).bind fun t380 => (spec_StretchedJobs.j0 k l0 a1 y376 (!t380))) else (spec_StretchedJobs.j0 k l0 a1 y376 true))) = some (r1, r2) := by first | (rw [hy376]; with_reducible exact H) | (have H2_ := (Option.bind_some _ _).symm.trans H; rw [hy376]; with_reducible exact H2_) | (have H2_ := (Option.bind_some _ _).symm.trans H; with_reducible exact H2_) | with_reducible exact H | (rw [hy376]; exact H) | exact H
 have Ny376 := Aside0.mk hy376
 clear hy376
 have HC3 := Aside0.mk H
 clear H
 go_enter Try.func11, Try.ntmps11
 go_upto_region 2 with (first | ((with_reducible refine gate_dst (N := 9) rfl ?_); refine Kd.R_lit k38 _ 38 ?hg (N := 9) ?hd (xs := ([] : List (S38))) (inner := []) (ok := fun _ => True) (okp := fun _ => True) ?hr ?hp (fun _ hk => hk) trivial (Below.refl _ _) (Nat.le_refl _) (by simp) ?_; (case hd => rfl); (case hg => rfl); (case hr => first | (go_simp; done) | (go_simp; rfl)); (case hp => exact (Reps.none _ _)); intro v377 w4 ho5 hb hg_ hnew_; clear hg_ hnew_; (first | rw [← Ny376.out] at ho5 | (simp only [Int.reduceToNat] at ho5; rw [← Ny376.out] at ho5)); have n0_ := Aside0.mk (Kd.R_lower ho5 (below_size (bw HB.out))); have n1_ := Aside0.mk (below_step (bw HB.out) hb); have HO378 := n0_; replace HB := n1_; clear n0_ n1_; clear hb ho5))
 (try simp only [Act.put, List.setIfInBounds_toArray, List.set_cons_zero, List.set_cons_succ])
 go_cut [17] (fun v17 wc => ∃ (kq : Nat) (x17_2 : Bool), v17 = .bool x17_2 ∧ Aside0 (spec_StretchedJobs.j0 kq l0 a1 y376 x17_2 = some (r1, r2)) ∧ Aside0 (kq ≤ k) ∧ Aside0 (Kd.R k38 38 wc w.heap.size (fun _ => True) v377 y376) ∧ Aside0 (Below w.heap.size w wc))
 case first =>
  have H := HC3.out
  clear HC3
  replace H := Option.bind_eq_some_iff.mp H
  obtain ⟨t379, A60, H⟩ := H
  replace H : (if t379 = true then ((spec_l1In.f a1 1 10).bind fun t380 => (spec_StretchedJobs.j0 k l0 a1 y376 (!t380))) else (spec_StretchedJobs.j0 k l0 a1 y376 true)) = some (r1, r2) := H
  have A6 := Aside0.mk A60
  clear A60
  by_cases c7 : t379 = true
  rotate_left
  ·replace c7 := Bool.eq_false_iff.mpr c7
   subst c7
   have H1 : (spec_StretchedJobs.j0 k l0 a1 y376 true) = some (r1, r2) := by rw [if_neg (show ¬ (false = true) by decide)] at H; exact H
   clear H
   have H := H1
   clear H1
   have H' := Aside0.mk H
   clear H
   go_wp2_with (first | ((with_reducible refine gate_callee (f := 31) rfl ?_); refine goesL_ (some 11) rfl rfl Try.func31 (by kernel_rfl) rfl #[.slice A0 l0.length c0] rfl (by (try simp only [mA_]); first | done | rfl | (simp only [List.length_drop, List.length_take]; rfl)) ?_; (with_reducible refine (spec_l2Good.calls k _ _ l0 false _ ?side1 ?side2 A6.out).mono ?_); (case side1 => first | exact bC HR0.out HB.out | exact Kd.C_below HR0.out HB.out); (case side2 => exact HC0.out); rintro e w10 ⟨rfl, hb⟩; refine ⟨_, rfl, ?_⟩; have n0_ := Aside0.mk (Kd.R_below (bR HO378.out) hb); have n1_ := Aside0.mk (below_step (bw HB.out) hb); replace HO378 := n0_; replace HB := n1_; clear n0_ n1_; (try clear hb); (try clear hb2); (try clear hk); (try clear hi)))
   go_meet
   case rel => exact ⟨_, (true), (by first | rfl | (simp; done) | (simp [*]; done)), H', ⟨by first | omega | exact Nat.le_refl _⟩, ⟨bR HO378.out⟩, ⟨bw HB.out⟩⟩
  subst c7
  have H1 : ((spec_l1In.f a1 1 10).bind fun t380 => (spec_StretchedJobs.j0 k l0 a1 y376 (!t380))) = some (r1, r2) := by rw [if_pos rfl] at H; exact H
  clear H
  have H := H1
  clear H1
  replace H := Option.bind_eq_some_iff.mp H
  obtain ⟨t380, A80, H⟩ := H
  replace H : (spec_StretchedJobs.j0 k l0 a1 y376 (!t380)) = some (r1, r2) := H
  have A8 := Aside0.mk A80
  clear A80
  have H' := Aside0.mk H
  clear H
  go_wp2_with (first | ((with_reducible refine gate_callee (f := 31) rfl ?_); refine goesL_ (some 11) rfl rfl Try.func31 (by kernel_rfl) rfl #[.slice A0 l0.length c0] rfl (by (try simp only [mA_]); first | done | rfl | (simp only [List.length_drop, List.length_take]; rfl)) ?_; (with_reducible refine (spec_l2Good.calls k _ _ l0 true _ ?side1 ?side2 A6.out).mono ?_); (case side1 => first | exact bC HR0.out HB.out | exact Kd.C_below HR0.out HB.out); (case side2 => exact HC0.out); rintro e w9 ⟨rfl, hb⟩; refine ⟨_, rfl, ?_⟩; have n0_ := Aside0.mk (Kd.R_below (bR HO378.out) hb); have n1_ := Aside0.mk (below_step (bw HB.out) hb); replace HO378 := n0_; replace HB := n1_; clear n0_ n1_; (try clear hb); (try clear hb2); (try clear hk); (try clear hi)) | (go_at_call 25; (with_reducible refine (spec_l1In.calls a1 1 10 t380 _ A8.out).mono ?_); rintro e w' ⟨rfl, ⟨nd, rfl⟩⟩))
  go_meet
  case rel => exact ⟨_, (!t380), (by first | rfl | (simp; done) | (simp [*]; done)), H', ⟨by first | omega | exact Nat.le_refl _⟩, ⟨bR HO378.out⟩, ⟨bw HB.out⟩⟩
 case rest =>
  clear HC3
  try clear c1
  try clear p2
  try clear c3
  try clear c7
  obtain ⟨kq, x17_2, rfl, HA, HJ2, HO_6, HB⟩ := hcut
  cases kq with
  | zero => exact absurd HA.out (by simp [spec_StretchedJobs.j0])
  | succ kj2 =>
   have H := HA.out
   clear HA
   simp only [spec_StretchedJobs.j0] at H
   by_cases c11 : x17_2 = true
   ·subst c11
    have H1 : (some (y376, false)) = some (r1, r2) := by rw [if_pos rfl] at H; exact H
    clear H
    have H := H1
    clear H1
    simp only [Option.some.injEq, Prod.mk.injEq] at H
    obtain ⟨rfl, rfl⟩ := H
    go_wp2
    go_ret2
    exact ⟨_, by first | rfl | (simp [errW_none, errW_some] <;> rfl) | (simp [*, errW_none, errW_some] <;> rfl), by (with_reducible repeat (first | apply Kd.R_alloc | apply Kd.R_drewN | apply Kd.R_drew)); exact HO_6.out, bw HB.out⟩
   replace c11 := Bool.eq_false_iff.mpr c11
   subst c11
   have H1 : (spec_StretchedJobs.l0 kj2 l0 a1 y376 0) = some (r1, r2) := by rw [if_neg (show ¬ (false = true) by decide)] at H; exact H
   clear H
   have H := H1
   clear H1
   have H' := Aside0.mk H
   clear H
   go_wp2
   go_loopg [6, 7] kj2 (fun kq v6 v7 w' => ∃ (x6_2 : List (S38)) (x7_2 : Int), v7 = .int .i64 x7_2 ∧ Aside0 (spec_StretchedJobs.l0 kq l0 a1 x6_2 x7_2 = some (r1, r2)) ∧ Aside0 (kq ≤ kj2) ∧ Aside0 (Kd.R k38 38 w' w.heap.size (fun _ => True) v6 x6_2) ∧ Aside0 (Below w.heap.size w w'))
   case atStart => exact ⟨(y376), (0), (by first | rfl | (simp; done) | (simp [*]; done)), H', ⟨Nat.le_refl _⟩, ⟨bR HO_6.out⟩, ⟨bw HB.out⟩⟩
   case round =>
    clear H'
    try clear c1
    try clear p2
    try clear c3
    try clear c7
    try clear c11
    try clear p2
    obtain ⟨x6_2, x7_2, rfl, HA, HK2, HO_6, HB⟩ := hrel
    cases gk with
    | zero => exact absurd HA.out (by simp [spec_StretchedJobs.l0])
    | succ k2 =>
     have H := HA.out
     clear HA
     simp only [spec_StretchedJobs.l0] at H
     by_cases c12 : x7_2 < (l0.length : Int)
     rotate_left
     ·rw [if_neg c12] at H
      have c12b0 : decide (x7_2 < (l0.length : Int)) = false := decide_eq_false c12
      clear c12
      replace H := Option.bind_eq_some_iff.mp H
      obtain ⟨t386, A180, H⟩ := H
      replace H : (if t386 = true then (some (x6_2, true)) else (some ((([] : List (S38))), false))) = some (r1, r2) := H
      have A18 := Aside0.mk A180
      clear A180
      by_cases c19 : t386 = true
      ·subst c19
       have H1 : (some (x6_2, true)) = some (r1, r2) := by rw [if_pos rfl] at H; exact H
       clear H
       have H := H1
       clear H1
       simp only [Option.some.injEq, Prod.mk.injEq] at H
       obtain ⟨rfl, rfl⟩ := H
       obtain ⟨Ao20, co20, eo20⟩ := Kd.R_slice HO_6.out
       subst eo20
       go_wp2_with (first | ((with_reducible refine gate_callee (f := 31) rfl ?_); refine goesL_ (some 48) rfl rfl Try.func31 (by kernel_rfl) rfl #[.slice Ao20 x6_2.length co20] rfl (by (try simp only [mA_]); first | done | rfl | (simp only [List.length_drop, List.length_take]; rfl)) ?_; (with_reducible refine (spec_l2Good.calls k2 _ _ x6_2 true _ ?side1 ?side2 A18.out).mono ?_); (case side1 => repeat (first | exact (Kd.R_reads' HO_6.out).2.2 | (with_reducible refine Kd.C_alloc ?_ _) | (with_reducible refine Kd.C_drewN ?_ _) | (with_reducible refine Kd.C_drew ?_))); (case side2 => exact (Kd.R_reads' HO_6.out).2.1); rintro e w21 ⟨rfl, hb⟩; refine ⟨_, rfl, ?_⟩; have n0_ := Aside0.mk (Kd.R_below (bR HO_6.out) hb); have n1_ := Aside0.mk (below_step (bw HB.out) hb); replace HO_6 := n0_; replace HB := n1_; clear n0_ n1_; (try clear hb); (try clear hb2); (try clear hk); (try clear hi)))
       go_ret2
       exact ⟨_, by first | rfl | (simp [errW_none, errW_some] <;> rfl) | (simp [*, errW_none, errW_some] <;> rfl), by (with_reducible repeat (first | apply Kd.R_alloc | apply Kd.R_drewN | apply Kd.R_drew)); exact HO_6.out, bw HB.out⟩
      replace c19 := Bool.eq_false_iff.mpr c19
      subst c19
      have H1 : (some ((([] : List (S38))), false)) = some (r1, r2) := by rw [if_neg (show ¬ (false = true) by decide)] at H; exact H
      clear H
      have H := H1
      clear H1
      obtain ⟨y387, hy387⟩ : ∃ y_ : List (S38), y_ = (([] : List (S38))) := ⟨_, rfl⟩
      replace H : (some (y387, false)) = some (r1, r2) := by first | (rw [hy387]; with_reducible exact H) | (have H2_ := (Option.bind_some _ _).symm.trans H; rw [hy387]; with_reducible exact H2_) | (have H2_ := (Option.bind_some _ _).symm.trans H; with_reducible exact H2_) | with_reducible exact H | (rw [hy387]; exact H) | exact H
      have Ny387 := Aside0.mk hy387
      clear hy387
      simp only [Option.some.injEq, Prod.mk.injEq] at H
      obtain ⟨rfl, rfl⟩ := H
      obtain ⟨Ao22, co22, eo22⟩ := Kd.R_slice HO_6.out
      subst eo22
      go_wp2_with (first | ((with_reducible refine gate_callee (f := 31) rfl ?_); refine goesL_ (some 48) rfl rfl Try.func31 (by kernel_rfl) rfl #[.slice Ao22 x6_2.length co22] rfl (by (try simp only [mA_]); first | done | rfl | (simp only [List.length_drop, List.length_take]; rfl)) ?_; (with_reducible refine (spec_l2Good.calls k2 _ _ x6_2 false _ ?side1 ?side2 A18.out).mono ?_); (case side1 => repeat (first | exact (Kd.R_reads' HO_6.out).2.2 | (with_reducible refine Kd.C_alloc ?_ _) | (with_reducible refine Kd.C_drewN ?_ _) | (with_reducible refine Kd.C_drew ?_))); (case side2 => exact (Kd.R_reads' HO_6.out).2.1); rintro e w23 ⟨rfl, hb⟩; refine ⟨_, rfl, ?_⟩; have n0_ := Aside0.mk (Kd.R_below (bR HO_6.out) hb); have n1_ := Aside0.mk (below_step (bw HB.out) hb); replace HO_6 := n0_; replace HB := n1_; clear n0_ n1_; (try clear hb); (try clear hb2); (try clear hk); (try clear hi)) | ((with_reducible refine gate_dst (N := 50) rfl ?_); refine Kd.R_lit k38 _ 38 ?hg (N := 50) ?hd (xs := ([] : List (S38))) (inner := []) (ok := fun _ => True) (okp := fun _ => True) ?hr ?hp (fun _ hk => hk) trivial (Below.refl _ _) (Nat.le_refl _) (by simp) ?_; (case hd => rfl); (case hg => rfl); (case hr => first | (go_simp; done) | (go_simp; rfl)); (case hp => exact (Reps.none _ _)); intro v388 w24 ho25 hb hg_ hnew_; clear hg_ hnew_; (first | rw [← Ny387.out] at ho25 | (simp only [Int.reduceToNat] at ho25; rw [← Ny387.out] at ho25)); have n0_ := Aside0.mk (Kd.R_elder' (bR HO_6.out) (Kd.R_base ho25) hb); have n1_ := Aside0.mk (Kd.R_lower (Kd.R_new' ho25 (Kd.R_lt (bR HO_6.out))) (below_size (bw HB.out))); have n2_ := Aside0.mk (below_step (bw HB.out) hb); replace HO_6 := n0_; have HO389 := n1_; replace HB := n2_; clear n0_ n1_ n2_; clear hb ho25))
      go_ret2
      exact ⟨_, by first | rfl | (simp [errW_none, errW_some] <;> rfl) | (simp [*, errW_none, errW_some] <;> rfl), by (with_reducible repeat (first | apply Kd.R_alloc | apply Kd.R_drewN | apply Kd.R_drew)); exact Kd.R_mono HO389.out (fun _ hk => trivial), bw HB.out⟩
     rw [if_pos c12] at H
     have c12b0 : decide (x7_2 < (l0.length : Int)) = true := decide_eq_true c12
     clear c12
     by_cases c13 : 0 ≤ x7_2
     rotate_left
     ·rw [if_neg c13] at H
      exact absurd H (by simp)
     rw [if_pos c13] at H
     have c13b0 : decide (0 ≤ x7_2) = true := decide_eq_true c13
     clear c13
     by_cases c14 : x6_2.length < 4398046511104
     rotate_left
     ·rw [if_neg c14] at H
      exact absurd H (by simp)
     rw [if_pos c14] at H
     have LMc14 := Aside0.mk c14
     clear c14
     obtain ⟨y383, hy383⟩ : ∃ y_ : List (S38), y_ = (x6_2 ++ [(⟨wrap64 (((rd_T38 l0 x7_2).f0) * a1), (rd_T38 l0 x7_2).f1, wrap64 (((rd_T38 l0 x7_2).f2) * a1), wrap64 (((rd_T38 l0 x7_2).f3) * a1)⟩ : S38)]) := ⟨_, rfl⟩
     replace H : (spec_StretchedJobs.l0 k2 l0 a1 y383 (wrap64 (x7_2 + 1))) = some (r1, r2) := by first | (rw [hy383]; with_reducible exact H) | (have H2_ := (Option.bind_some _ _).symm.trans H; rw [hy383]; with_reducible exact H2_) | (have H2_ := (Option.bind_some _ _).symm.trans H; with_reducible exact H2_) | with_reducible exact H | (rw [hy383]; exact H) | exact H
     have Ny383 := Aside0.mk hy383
     clear hy383
     have H' := Aside0.mk H
     clear H
     have p381 : 0 ≤ (x7_2 : Int) := of_decide_eq_true (by first | (with_reducible assumption) | assumption)
     have q381 : x7_2 < (l0.length : Int) := of_decide_eq_true (by first | (with_reducible assumption) | assumption)
     obtain ⟨ad381, e381, hx381_0, hx381_1, hx381_2, hx381_3⟩ := at_T38 HR0.out x7_2 p381 q381
     cases e381
     replace hx381_0 := (HB.out.cell (World.block_lt_of_cell? w _ hx381_0)).trans hx381_0
     replace hx381_1 := (HB.out.cell (World.block_lt_of_cell? w _ hx381_1)).trans hx381_1
     replace hx381_2 := (HB.out.cell (World.block_lt_of_cell? w _ hx381_2)).trans hx381_2
     replace hx381_3 := (HB.out.cell (World.block_lt_of_cell? w _ hx381_3)).trans hx381_3
     replace p381 := eq_true p381
     replace q381 := eq_true q381
     go_wp2_with (first | ((with_reducible refine gate_dst (N := 8) rfl ?_); refine box_event ?hg (N := 8) ?hd (cs := #[.int .i64 0, .int .i64 0, .int .i64 0, .int .i64 0]) (t := 38) ?hr ?_; (case hd => rfl); (case hg => rfl); (case hr => first | (go_simp; done) | (go_simp; rfl)); intro gb382 hg w15 hbox hb; have n0_ := Aside0.mk (Kd.R_below (Kd.R_elderB (bR HO_6.out) gb382 (Nat.le_of_eq hg.symm)) hb); have n1_ := Aside0.mk (below_step (bw HB.out) hb); have n2_ := Aside0.mk (hbox); have n3_ := ge_ hg HB.out; have n4_ := ge_ hg HB.out; replace HO_6 := n0_; replace HB := n1_; have BK382 := n2_; have GW382 := n3_; have GE382 := n4_; clear n0_ n1_ n2_ n3_ n4_; clear hb hbox hg; obtain ⟨hcz16_0, hcz16_1, hcz16_2, hcz16_3, hfz16_0, hfz16_1, hfz16_2, hfz16_3⟩ := bz4 BK382.out) | ((with_reducible refine gate_builtin (b := .append) (xs := #[.tmp 29, .tmp 45]) rfl ?_); at_builtin; refine Kd.R_append k38 (w0 := w) w.heap.size rfl (.tmp 29) (.tmp 45) 24 38 (.agg #[(.int .i64 0), (.int .i64 0), (.int .i64 0), (.int .i64 0)]) 32 rfl Try.underlying24 info38 rfl (by decide) (by omega) u6 x6_2 (⟨wrap64 (((rd_T38 l0 x7_2).f0) * a1), (rd_T38 l0 x7_2).f1, wrap64 (((rd_T38 l0 x7_2).f2) * a1), wrap64 (((rd_T38 l0 x7_2).f3) * a1)⟩ : S38) [.int .i64 (wrap64 (((rd_T38 l0 x7_2).f0) * a1)), .int .i64 ((rd_T38 l0 x7_2).f1), .int .i64 (wrap64 (((rd_T38 l0 x7_2).f2) * a1)), .int .i64 (wrap64 (((rd_T38 l0 x7_2).f3) * a1))] (fun k_ => k_ ≠ gb382) (fun _ => False) rfl (by first | (go_simp; done) | (go_simp; rfl)) ?aP (fun _ hk => hk.elim) ?aF ?aO ?aB ?aS ?aL ?_; (case aP => exact k38_mkM _ _ _ (⟨wrap64 (((rd_T38 l0 x7_2).f0) * a1), (rd_T38 l0 x7_2).f1, wrap64 (((rd_T38 l0 x7_2).f2) * a1), wrap64 (((rd_T38 l0 x7_2).f3) * a1)⟩ : S38)); (case aB => exact (by repeat (first | (with_reducible first | exact bw HB.out | refine bset ?_ | apply bA | apply bN | apply bD) | exact HB.out))); (case aF => exact (fun k_ hk => Kd.freshB (g := gb382) (o := .cells #[.int .i64 ((rd_T38 l0 x7_2).f0), .int .i64 ((rd_T38 l0 x7_2).f1), .int .i64 ((rd_T38 l0 x7_2).f2), .int .i64 ((rd_T38 l0 x7_2).f3)] 38 (0, 0)) (by (with_reducible repeat (first | refine blk_drewN ?_ _ | refine blk_drew ?_ | refine blk_alloc ?_ _)); refine blk_put (cs := #[.int .i64 ((rd_T38 l0 x7_2).f0), .int .i64 ((rd_T38 l0 x7_2).f1), .int .i64 ((rd_T38 l0 x7_2).f2), .int .i64 0]) ?_ 3 _ rfl; (with_reducible repeat (first | refine blk_drewN ?_ _ | refine blk_drew ?_ | refine blk_alloc ?_ _)); refine blk_put (cs := #[.int .i64 ((rd_T38 l0 x7_2).f0), .int .i64 ((rd_T38 l0 x7_2).f1), .int .i64 0, .int .i64 0]) ?_ 2 _ rfl; (with_reducible repeat (first | refine blk_drewN ?_ _ | refine blk_drew ?_ | refine blk_alloc ?_ _)); refine blk_put (cs := #[.int .i64 ((rd_T38 l0 x7_2).f0), .int .i64 0, .int .i64 0, .int .i64 0]) ?_ 1 _ rfl; (with_reducible repeat (first | refine blk_drewN ?_ _ | refine blk_drew ?_ | refine blk_alloc ?_ _)); refine blk_put (cs := #[.int .i64 0, .int .i64 0, .int .i64 0, .int .i64 0]) ?_ 0 _ rfl; exact bs BK382.out) k_ hk)); (case aO => exact (by (with_reducible repeat (first | apply Kd.R_alloc | apply Kd.R_drewN | apply Kd.R_drew)); exact Kd.R_mono (Kd.R_far (p := ⟨gb382, 3, none⟩) (Kd.R_far (p := ⟨gb382, 2, none⟩) (Kd.R_far (p := ⟨gb382, 1, none⟩) (Kd.R_far (p := ⟨gb382, 0, none⟩) (Kd.R_mono HO_6.out (fun k_ hk => (⟨hk, hk.2⟩ : _ ∧ k_ ≠ gb382))) (fun _ hk => hk.2) (.int .i64 ((rd_T38 l0 x7_2).f0))) (fun _ hk => hk.2) (.int .i64 ((rd_T38 l0 x7_2).f1))) (fun _ hk => hk.2) (.int .i64 ((rd_T38 l0 x7_2).f2))) (fun _ hk => hk.2) (.int .i64 ((rd_T38 l0 x7_2).f3))) (fun _ hk => hk.1.2))); (case aS => exact (below_size (by repeat (first | (with_reducible first | exact bw HB.out | refine bset ?_ | apply bA | apply bN | apply bD) | exact HB.out)))); (case aL => have := LMc14.out; omega); intro v384 w17 ho hb hg hat; rw [← Ny383.out] at ho; have n0_ := Aside0.mk (blk_grown (g := gb382) (o := .cells #[.int .i64 ((rd_T38 l0 x7_2).f0), .int .i64 ((rd_T38 l0 x7_2).f1), .int .i64 ((rd_T38 l0 x7_2).f2), .int .i64 ((rd_T38 l0 x7_2).f3)] 38 (0, 0)) (by (with_reducible repeat (first | refine blk_drewN ?_ _ | refine blk_drew ?_ | refine blk_alloc ?_ _)); refine blk_put (cs := #[.int .i64 ((rd_T38 l0 x7_2).f0), .int .i64 ((rd_T38 l0 x7_2).f1), .int .i64 ((rd_T38 l0 x7_2).f2), .int .i64 0]) ?_ 3 _ rfl; (with_reducible repeat (first | refine blk_drewN ?_ _ | refine blk_drew ?_ | refine blk_alloc ?_ _)); refine blk_put (cs := #[.int .i64 ((rd_T38 l0 x7_2).f0), .int .i64 ((rd_T38 l0 x7_2).f1), .int .i64 0, .int .i64 0]) ?_ 2 _ rfl; (with_reducible repeat (first | refine blk_drewN ?_ _ | refine blk_drew ?_ | refine blk_alloc ?_ _)); refine blk_put (cs := #[.int .i64 ((rd_T38 l0 x7_2).f0), .int .i64 0, .int .i64 0, .int .i64 0]) ?_ 1 _ rfl; (with_reducible repeat (first | refine blk_drewN ?_ _ | refine blk_drew ?_ | refine blk_alloc ?_ _)); refine blk_put (cs := #[.int .i64 0, .int .i64 0, .int .i64 0, .int .i64 0]) ?_ 0 _ rfl; exact bs BK382.out) hg (Kd.R_away HO_6.out (fun _ hk => hk.2))); have n1_ := Aside0.mk (hb); have n2_ := Aside0.mk (ho); clear HO_6; replace BK382 := n0_; replace HB := n1_; have HO385 := n2_; clear n0_ n1_ n2_; clear ho hb hg hat))
     go_roundg k2
     case measure => have := HJ2.out; have := HK2.out; omega
     case rel => exact ⟨(y383), (wrap64 (x7_2 + 1)), (by first | rfl | (simp; done) | (simp [*]; done)), H', ⟨by have := HJ2.out; have := HK2.out; omega⟩, ⟨by (with_reducible repeat (first | apply Kd.R_alloc | apply Kd.R_drewN | apply Kd.R_drew)); exact Kd.R_mono HO385.out (fun _ hk => trivial)⟩, ⟨by repeat (first | (with_reducible first | exact bw HB.out | refine bset ?_ | apply bA | apply bN | apply bD) | exact HB.out)⟩⟩

/-! ### laws_vInts: function 12 -/
def laws_vInts.l0 : Nat → List Int → List Int → Int → Option (Bool)
 | 0, _, _, _ => none
 | k + 1, x0, x1, x5 => if x5 < (x0.length : Int) then (if 0 ≤ x5 then (if x5 < (x1.length : Int) then (if (rd x0 x5) = (rd x1 x5) then (laws_vInts.l0 k x0 x1 (wrap64 (x5 + 1))) else (some false)) else (none)) else (none)) else (some true)
def laws_vInts.f (k : Nat) (l0 : List Int) (l1 : List Int) : Option (Bool) := if (l0.length : Int) = (l1.length : Int) then (laws_vInts.l0 k l0 l1 0) else (some false)
theorem laws_vInts.mono_l : ∀ k, (∀ y0 y1 y2, LeO (laws_vInts.l0 k y0 y1 y2) (laws_vInts.l0 (k + 1) y0 y1 y2))
 | 0 => fun _ _ _ r h => by simp [laws_vInts.l0] at h
 | k + 1 => by
  have ih0 := laws_vInts.mono_l k
  ·intro y0 y1 y2
   unfold laws_vInts.l0
   repeat' first
   | (with_reducible exact ih0 _ _ _)
   | (with_reducible exact LeO.refl _)
   | (with_reducible exact LeO.none _)
   | (with_reducible refine LeO.ite ?_ ?_)
   | (with_reducible refine LeO.bind ?_ (fun _ => ?_))
   | exact ih0 _ _ _
   | exact LeO.none _
   | refine LeO.ite ?_ ?_
   | refine LeO.bind ?_ (fun _ => ?_)
theorem laws_vInts.mono : ∀ a0 a1 k, LeO (laws_vInts.f k a0 a1) (laws_vInts.f (k + 1) a0 a1) := by
 intro a0 a1 k
 have ih0 := laws_vInts.mono_l k
 unfold laws_vInts.f
 repeat' first
   | (with_reducible exact ih0 _ _ _)
   | (with_reducible exact LeO.refl _)
   | (with_reducible exact LeO.none _)
   | (with_reducible refine LeO.ite ?_ ?_)
   | (with_reducible refine LeO.bind ?_ (fun _ => ?_))
   | exact ih0 _ _ _
   | exact LeO.none _
   | refine LeO.ite ?_ ?_
   | refine LeO.bind ?_ (fun _ => ?_)
set_option maxHeartbeats 8000000 in
set_option maxRecDepth 100000 in
theorem laws_vInts.calls (k : Nat) (A0 : Option Addr) (c0 : Nat) (l0 : List Int) (A1 : Option Addr) (c1 : Nat) (l1 : List Int) (r : Bool) (w : World) (hr0 : Kd.C (Kd.int .i64) w A0 l0.length l0) (hc0 : l0.length ≤ c0) (hr1 : Kd.C (Kd.int .i64) w A1 l1.length l1) (hc1 : l1.length ≤ c1) (h : laws_vInts.f k l0 l1 = some r) :
  Calls Try.prog 12 #[.slice A0 l0.length c0, .slice A1 l1.length c1] w fun e w' => e = .returned (.bool r) ∧ Drawn0 w w' := by
 have HR0 := Aside0.mk hr0
 have HC0 := Aside0.mk hc0
 clear hr0 hc0
 have HR1 := Aside0.mk hr1
 have HC1 := Aside0.mk hc1
 clear hr1 hc1
 have H : (if (l0.length : Int) = (l1.length : Int) then (laws_vInts.l0 k l0 l1 0) else (some false)) = some r := h
 clear h
 by_cases c3 : (l0.length : Int) = (l1.length : Int)
 rotate_left
 ·rw [if_neg c3] at H
  have c3b0 : ((l0.length : Int) == (l1.length : Int)) = false := beq_eq_false_iff_ne.mpr c3
  have c3b1 : ((l0.length : Int) != (l1.length : Int)) = true := bne_iff_ne.mpr c3
  have c3b2 : (l0.length == l1.length) = false := by first | simpa using c3 | (simp at c3 ⊢; omega)
  obtain rfl := Option.some.inj H
  go_enter Try.func12, Try.ntmps12
  go_wp2
  repeat (go_quiet (fail); try go_wp2)
  go_ret
  exact ⟨by first | rfl | (simp; done) | (simp [*]; done), by repeat (first | exact Drawn0.refl _ | apply Drawn0.step)⟩
 rw [if_pos c3] at H
 have c3b0 : ((l0.length : Int) == (l1.length : Int)) = true := beq_iff_eq.mpr c3
 have c3b1 : ((l0.length : Int) != (l1.length : Int)) = false := bne_eq_false_iff_eq.mpr c3
 have c3b2 : (l0.length == l1.length) = true := by first | simpa using c3 | (simp at c3 ⊢; omega)
 clear c3
 have H' := Aside0.mk H
 clear H
 go_enter Try.func12, Try.ntmps12
 go_wp2
 repeat (go_quiet (fail); try go_wp2)
 go_loopg [5] k (fun kq v5 w' => ∃ (x5_1 : Int), v5 = .int .i64 x5_1 ∧ Aside0 (laws_vInts.l0 kq l0 l1 x5_1 = some r) ∧ Aside0 (kq ≤ k) ∧ Drawn0 w w')
 case atStart => exact ⟨(0), (by first | rfl | (simp; done) | (simp [*]; done)), H', ⟨Nat.le_refl _⟩, by repeat (first | exact Drawn0.refl _ | apply Drawn0.step)⟩
 case round =>
  clear H'
  try clear c1
  try clear p2
  try clear c3
  try clear c3b0
  try clear c3b1
  try clear c3b2
  obtain ⟨x5_1, rfl, HA, HK1, ⟨m1, rfl⟩⟩ := hrel
  cases gk with
  | zero => exact absurd HA.out (by simp [laws_vInts.l0])
  | succ k1 =>
   have H := HA.out
   clear HA
   simp only [laws_vInts.l0] at H
   by_cases c4 : x5_1 < (l0.length : Int)
   rotate_left
   ·rw [if_neg c4] at H
    have c4b0 : decide (x5_1 < (l0.length : Int)) = false := decide_eq_false c4
    clear c4
    obtain rfl := Option.some.inj H
    go_wp2
    repeat (go_quiet (fail); try go_wp2)
    go_ret
    exact ⟨by first | rfl | (simp; done) | (simp [*]; done), by repeat (first | exact Drawn0.refl _ | apply Drawn0.step)⟩
   rw [if_pos c4] at H
   have c4b0 : decide (x5_1 < (l0.length : Int)) = true := decide_eq_true c4
   clear c4
   by_cases c5 : 0 ≤ x5_1
   rotate_left
   ·rw [if_neg c5] at H
    exact absurd H (by simp)
   rw [if_pos c5] at H
   have c5b0 : decide (0 ≤ x5_1) = true := decide_eq_true c5
   clear c5
   by_cases c6 : x5_1 < (l1.length : Int)
   rotate_left
   ·rw [if_neg c6] at H
    exact absurd H (by simp)
   rw [if_pos c6] at H
   have c6b0 : decide (x5_1 < (l1.length : Int)) = true := decide_eq_true c6
   clear c6
   by_cases c7 : (rd l0 x5_1) = (rd l1 x5_1)
   rotate_left
   ·rw [if_neg c7] at H
    have c7b0 : ((rd l0 x5_1) == (rd l1 x5_1)) = false := beq_eq_false_iff_ne.mpr c7
    have c7b1 : ((rd l0 x5_1) != (rd l1 x5_1)) = true := bne_iff_ne.mpr c7
    obtain rfl := Option.some.inj H
    have p390 : 0 ≤ (x5_1 : Int) := of_decide_eq_true (by first | (with_reducible assumption) | assumption)
    have q390 : x5_1 < (l0.length : Int) := of_decide_eq_true (by first | (with_reducible assumption) | assumption)
    obtain ⟨ad390, e390, hx390_0⟩ := Kd.at_int HR0.out x5_1 p390 q390
    cases e390
    replace p390 := eq_true p390
    replace q390 := eq_true q390
    have p391 : 0 ≤ (x5_1 : Int) := of_decide_eq_true (by first | (with_reducible assumption) | assumption)
    have q391 : x5_1 < (l1.length : Int) := of_decide_eq_true (by first | (with_reducible assumption) | assumption)
    obtain ⟨ad391, e391, hx391_0⟩ := Kd.at_int HR1.out x5_1 p391 q391
    cases e391
    replace p391 := eq_true p391
    replace q391 := eq_true q391
    go_wp2
    repeat (go_quiet (fail); try go_wp2)
    go_ret
    exact ⟨by first | rfl | (simp; done) | (simp [*]; done), by repeat (first | exact Drawn0.refl _ | apply Drawn0.step)⟩
   rw [if_pos c7] at H
   have c7b0 : ((rd l0 x5_1) == (rd l1 x5_1)) = true := beq_iff_eq.mpr c7
   have c7b1 : ((rd l0 x5_1) != (rd l1 x5_1)) = false := bne_eq_false_iff_eq.mpr c7
   clear c7
   have H' := Aside0.mk H
   clear H
   have p390 : 0 ≤ (x5_1 : Int) := of_decide_eq_true (by first | (with_reducible assumption) | assumption)
   have q390 : x5_1 < (l0.length : Int) := of_decide_eq_true (by first | (with_reducible assumption) | assumption)
   obtain ⟨ad390, e390, hx390_0⟩ := Kd.at_int HR0.out x5_1 p390 q390
   cases e390
   replace p390 := eq_true p390
   replace q390 := eq_true q390
   have p391 : 0 ≤ (x5_1 : Int) := of_decide_eq_true (by first | (with_reducible assumption) | assumption)
   have q391 : x5_1 < (l1.length : Int) := of_decide_eq_true (by first | (with_reducible assumption) | assumption)
   obtain ⟨ad391, e391, hx391_0⟩ := Kd.at_int HR1.out x5_1 p391 q391
   cases e391
   replace p391 := eq_true p391
   replace q391 := eq_true q391
   go_wp2
   repeat (go_quiet (fail); try go_wp2)
   go_roundg k1
   case measure => have := HK1.out; omega
   case rel => exact ⟨(wrap64 (x5_1 + 1)), (by first | rfl | (simp; done) | (simp [*]; done)), H', ⟨by have := HK1.out; omega⟩, by repeat (first | exact Drawn0.refl _ | apply Drawn0.step)⟩

/-! ### laws_vJobs: function 13 -/
def laws_vJobs.l0 : Nat → List (S38) → List (S38) → Int → Option (Bool)
 | 0, _, _, _ => none
 | k + 1, x0, x1, x5 => if x5 < (x0.length : Int) then (if 0 ≤ x5 then (if x5 < (x1.length : Int) then (if (!(((rd_T38 x0 x5).f0) == ((rd_T38 x1 x5).f0)) || (!(((rd_T38 x0 x5).f1) == ((rd_T38 x1 x5).f1)) || (!(((rd_T38 x0 x5).f2) == ((rd_T38 x1 x5).f2)) || (!(((rd_T38 x0 x5).f3) == ((rd_T38 x1 x5).f3)))))) = true then (some false) else (laws_vJobs.l0 k x0 x1 (wrap64 (x5 + 1)))) else (none)) else (none)) else (some true)
def laws_vJobs.f (k : Nat) (l0 : List (S38)) (l1 : List (S38)) : Option (Bool) := if (l0.length : Int) = (l1.length : Int) then (laws_vJobs.l0 k l0 l1 0) else (some false)
theorem laws_vJobs.mono_l : ∀ k, (∀ y0 y1 y2, LeO (laws_vJobs.l0 k y0 y1 y2) (laws_vJobs.l0 (k + 1) y0 y1 y2))
 | 0 => fun _ _ _ r h => by simp [laws_vJobs.l0] at h
 | k + 1 => by
  have ih0 := laws_vJobs.mono_l k
  ·intro y0 y1 y2
   unfold laws_vJobs.l0
   repeat' first
   | (with_reducible exact ih0 _ _ _)
   | (with_reducible exact LeO.refl _)
   | (with_reducible exact LeO.none _)
   | (with_reducible refine LeO.ite ?_ ?_)
   | (with_reducible refine LeO.bind ?_ (fun _ => ?_))
   | exact ih0 _ _ _
   | exact LeO.none _
   | refine LeO.ite ?_ ?_
   | refine LeO.bind ?_ (fun _ => ?_)
theorem laws_vJobs.mono : ∀ a0 a1 k, LeO (laws_vJobs.f k a0 a1) (laws_vJobs.f (k + 1) a0 a1) := by
 intro a0 a1 k
 have ih0 := laws_vJobs.mono_l k
 unfold laws_vJobs.f
 repeat' first
   | (with_reducible exact ih0 _ _ _)
   | (with_reducible exact LeO.refl _)
   | (with_reducible exact LeO.none _)
   | (with_reducible refine LeO.ite ?_ ?_)
   | (with_reducible refine LeO.bind ?_ (fun _ => ?_))
   | exact ih0 _ _ _
   | exact LeO.none _
   | refine LeO.ite ?_ ?_
   | refine LeO.bind ?_ (fun _ => ?_)
set_option maxHeartbeats 8000000 in
set_option maxRecDepth 100000 in
theorem laws_vJobs.calls (k : Nat) (A0 : Option Addr) (c0 : Nat) (l0 : List (S38)) (A1 : Option Addr) (c1 : Nat) (l1 : List (S38)) (r : Bool) (w : World) (hr0 : Kd.C k38 w A0 l0.length l0) (hc0 : l0.length ≤ c0) (hr1 : Kd.C k38 w A1 l1.length l1) (hc1 : l1.length ≤ c1) (h : laws_vJobs.f k l0 l1 = some r) :
  Calls Try.prog 13 #[.slice A0 l0.length c0, .slice A1 l1.length c1] w fun e w' => e = .returned (.bool r) ∧ Drawn0 w w' := by
 have hu38 := Try.underlying38
 have HR0 := Aside0.mk hr0
 have HC0 := Aside0.mk hc0
 clear hr0 hc0
 have HR1 := Aside0.mk hr1
 have HC1 := Aside0.mk hc1
 clear hr1 hc1
 have H : (if (l0.length : Int) = (l1.length : Int) then (laws_vJobs.l0 k l0 l1 0) else (some false)) = some r := h
 clear h
 by_cases c3 : (l0.length : Int) = (l1.length : Int)
 rotate_left
 ·rw [if_neg c3] at H
  have c3b0 : ((l0.length : Int) == (l1.length : Int)) = false := beq_eq_false_iff_ne.mpr c3
  have c3b1 : ((l0.length : Int) != (l1.length : Int)) = true := bne_iff_ne.mpr c3
  have c3b2 : (l0.length == l1.length) = false := by first | simpa using c3 | (simp at c3 ⊢; omega)
  obtain rfl := Option.some.inj H
  go_enter Try.func13, Try.ntmps13
  go_wp2
  repeat (go_quiet (fail); try go_wp2)
  go_ret
  exact ⟨by first | rfl | (simp; done) | (simp [*]; done), by repeat (first | exact Drawn0.refl _ | apply Drawn0.step)⟩
 rw [if_pos c3] at H
 have c3b0 : ((l0.length : Int) == (l1.length : Int)) = true := beq_iff_eq.mpr c3
 have c3b1 : ((l0.length : Int) != (l1.length : Int)) = false := bne_eq_false_iff_eq.mpr c3
 have c3b2 : (l0.length == l1.length) = true := by first | simpa using c3 | (simp at c3 ⊢; omega)
 clear c3
 have H' := Aside0.mk H
 clear H
 go_enter Try.func13, Try.ntmps13
 go_wp2
 repeat (go_quiet (fail); try go_wp2)
 go_loopg [5] k (fun kq v5 w' => ∃ (x5_1 : Int), v5 = .int .i64 x5_1 ∧ Aside0 (laws_vJobs.l0 kq l0 l1 x5_1 = some r) ∧ Aside0 (kq ≤ k) ∧ Drawn0 w w')
 case atStart => exact ⟨(0), (by first | rfl | (simp; done) | (simp [*]; done)), H', ⟨Nat.le_refl _⟩, by repeat (first | exact Drawn0.refl _ | apply Drawn0.step)⟩
 case round =>
  clear H'
  try clear c1
  try clear p2
  try clear c3
  try clear c3b0
  try clear c3b1
  try clear c3b2
  obtain ⟨x5_1, rfl, HA, HK1, ⟨m1, rfl⟩⟩ := hrel
  cases gk with
  | zero => exact absurd HA.out (by simp [laws_vJobs.l0])
  | succ k1 =>
   have H := HA.out
   clear HA
   simp only [laws_vJobs.l0] at H
   by_cases c4 : x5_1 < (l0.length : Int)
   rotate_left
   ·rw [if_neg c4] at H
    have c4b0 : decide (x5_1 < (l0.length : Int)) = false := decide_eq_false c4
    clear c4
    obtain rfl := Option.some.inj H
    go_wp2
    repeat (go_quiet (fail); try go_wp2)
    go_ret
    exact ⟨by first | rfl | (simp; done) | (simp [*]; done), by repeat (first | exact Drawn0.refl _ | apply Drawn0.step)⟩
   rw [if_pos c4] at H
   have c4b0 : decide (x5_1 < (l0.length : Int)) = true := decide_eq_true c4
   clear c4
   by_cases c5 : 0 ≤ x5_1
   rotate_left
   ·rw [if_neg c5] at H
    exact absurd H (by simp)
   rw [if_pos c5] at H
   have c5b0 : decide (0 ≤ x5_1) = true := decide_eq_true c5
   clear c5
   by_cases c6 : x5_1 < (l1.length : Int)
   rotate_left
   ·rw [if_neg c6] at H
    exact absurd H (by simp)
   rw [if_pos c6] at H
   have c6b0 : decide (x5_1 < (l1.length : Int)) = true := decide_eq_true c6
   clear c6
   by_cases c7 : (!(((rd_T38 l0 x5_1).f0) == ((rd_T38 l1 x5_1).f0)) || (!(((rd_T38 l0 x5_1).f1) == ((rd_T38 l1 x5_1).f1)) || (!(((rd_T38 l0 x5_1).f2) == ((rd_T38 l1 x5_1).f2)) || (!(((rd_T38 l0 x5_1).f3) == ((rd_T38 l1 x5_1).f3)))))) = true
   ·rw [if_pos c7] at H
    have c7b0 : (!(((rd_T38 l0 x5_1).f0) == ((rd_T38 l1 x5_1).f0)) || (!(((rd_T38 l0 x5_1).f1) == ((rd_T38 l1 x5_1).f1)) || (!(((rd_T38 l0 x5_1).f2) == ((rd_T38 l1 x5_1).f2)) || (!(((rd_T38 l0 x5_1).f3) == ((rd_T38 l1 x5_1).f3)))))) = true := c7
    clear c7
    obtain rfl := Option.some.inj H
    have p392 : 0 ≤ (x5_1 : Int) := of_decide_eq_true (by first | (with_reducible assumption) | assumption)
    have q392 : x5_1 < (l0.length : Int) := of_decide_eq_true (by first | (with_reducible assumption) | assumption)
    obtain ⟨ad392, e392, hx392_0, hx392_1, hx392_2, hx392_3⟩ := at_T38 HR0.out x5_1 p392 q392
    cases e392
    replace p392 := eq_true p392
    replace q392 := eq_true q392
    have p393 : 0 ≤ (x5_1 : Int) := of_decide_eq_true (by first | (with_reducible assumption) | assumption)
    have q393 : x5_1 < (l1.length : Int) := of_decide_eq_true (by first | (with_reducible assumption) | assumption)
    obtain ⟨ad393, e393, hx393_0, hx393_1, hx393_2, hx393_3⟩ := at_T38 HR1.out x5_1 p393 q393
    cases e393
    replace p393 := eq_true p393
    replace q393 := eq_true q393
    go_wp2
    repeat (go_quiet (fail); try go_wp2)
    go_ret
    exact ⟨by first | rfl | (simp; done) | (simp [*]; done), by repeat (first | exact Drawn0.refl _ | apply Drawn0.step)⟩
   rw [if_neg c7] at H
   have c7b0 : (!(((rd_T38 l0 x5_1).f0) == ((rd_T38 l1 x5_1).f0)) || (!(((rd_T38 l0 x5_1).f1) == ((rd_T38 l1 x5_1).f1)) || (!(((rd_T38 l0 x5_1).f2) == ((rd_T38 l1 x5_1).f2)) || (!(((rd_T38 l0 x5_1).f3) == ((rd_T38 l1 x5_1).f3)))))) = false := by simpa using c7
   clear c7
   have H' := Aside0.mk H
   clear H
   have p392 : 0 ≤ (x5_1 : Int) := of_decide_eq_true (by first | (with_reducible assumption) | assumption)
   have q392 : x5_1 < (l0.length : Int) := of_decide_eq_true (by first | (with_reducible assumption) | assumption)
   obtain ⟨ad392, e392, hx392_0, hx392_1, hx392_2, hx392_3⟩ := at_T38 HR0.out x5_1 p392 q392
   cases e392
   replace p392 := eq_true p392
   replace q392 := eq_true q392
   have p393 : 0 ≤ (x5_1 : Int) := of_decide_eq_true (by first | (with_reducible assumption) | assumption)
   have q393 : x5_1 < (l1.length : Int) := of_decide_eq_true (by first | (with_reducible assumption) | assumption)
   obtain ⟨ad393, e393, hx393_0, hx393_1, hx393_2, hx393_3⟩ := at_T38 HR1.out x5_1 p393 q393
   cases e393
   replace p393 := eq_true p393
   replace q393 := eq_true q393
   go_wp2
   repeat (go_quiet (fail); try go_wp2)
   go_roundg k1
   case measure => have := HK1.out; omega
   case rel => exact ⟨(wrap64 (x5_1 + 1)), (by first | rfl | (simp; done) | (simp [*]; done)), H', ⟨by have := HK1.out; omega⟩, by repeat (first | exact Drawn0.refl _ | apply Drawn0.step)⟩

/-! ### impl_isRuled: function 32 -/
def impl_isRuled.f (k : Nat) (l0 : List (S38)) (a1 : Int) : Option (Bool) := (impl_IsJobs.f k l0).bind fun t394 => (if t394 = true then (if a1 = 1 then (some true) else ((impl_within.f a1 2 4).bind fun t395 => (if t395 = true then ((impl_isPlain.f k l0).bind fun t396 => (some t396)) else (some false)))) else (some false))
theorem impl_isRuled.mono : ∀ a0 a1 k, LeO (impl_isRuled.f k a0 a1) (impl_isRuled.f (k + 1) a0 a1) := by
 intro a0 a1 k
 unfold impl_isRuled.f
 repeat' first
   | (with_reducible exact impl_IsJobs.mono _ _)
   | (with_reducible exact impl_isPlain.mono _ _)
   | (with_reducible exact LeO.refl _)
   | (with_reducible exact LeO.none _)
   | (with_reducible refine LeO.ite ?_ ?_)
   | (with_reducible refine LeO.bind ?_ (fun _ => ?_))
   | exact impl_IsJobs.mono _ _
   | exact impl_isPlain.mono _ _
   | exact LeO.none _
   | refine LeO.ite ?_ ?_
   | refine LeO.bind ?_ (fun _ => ?_)
set_option maxHeartbeats 8000000 in
set_option maxRecDepth 100000 in
theorem impl_isRuled.calls (k : Nat) (A0 : Option Addr) (c0 : Nat) (l0 : List (S38)) (a1 : Int) (r : Bool) (w : World) (hr0 : Kd.C k38 w A0 l0.length l0) (hc0 : l0.length ≤ c0) (h : impl_isRuled.f k l0 a1 = some r) :
  Calls Try.prog 32 #[.slice A0 l0.length c0, .int .i64 a1] w fun e w' => e = .returned (.bool r) ∧ Below w.heap.size w w' := by
 have HR0 := Aside0.mk hr0
 have HC0 := Aside0.mk hc0
 clear hr0 hc0
 have HB := Aside0.mk (Below.refl w.heap.size w)
 have H : ((impl_IsJobs.f k l0).bind fun t394 => (if t394 = true then (if a1 = 1 then (some true) else ((impl_within.f a1 2 4).bind fun t395 => (if t395 = true then ((impl_isPlain.f k l0).bind fun t396 => (some t396)) else (some false)))) else (some false))) = some r := h
 clear h
 replace H := Option.bind_eq_some_iff.mp H
 obtain ⟨t394, A30, H⟩ := H
 replace H : (if t394 = true then (if a1 = 1 then (some true) else ((impl_within.f a1 2 4).bind fun t395 => (if t395 = true then ((impl_isPlain.f k l0).bind fun t396 => (some t396)) else (some false)))) else (some false)) = some r := H
 have A3 := Aside0.mk A30
 clear A30
 by_cases c4 : t394 = true
 rotate_left
 ·replace c4 := Bool.eq_false_iff.mpr c4
  subst c4
  have H1 : (some false) = some r := by rw [if_neg (show ¬ (false = true) by decide)] at H; exact H
  clear H
  have H := H1
  clear H1
  obtain rfl := Option.some.inj H
  go_enter Try.func32, Try.ntmps32
  go_wp2_with (first | ((with_reducible refine gate_callee (f := 29) rfl ?_); refine goesL_ (some 6) rfl rfl Try.func29 (by kernel_rfl) rfl #[.slice A0 l0.length c0] rfl (by (try simp only [mA_]); first | done | rfl | (simp only [List.length_drop, List.length_take]; rfl)) ?_; (with_reducible refine (impl_IsJobs.calls k _ _ l0 false _ ?side1 ?side2 A3.out).mono ?_); (case side1 => repeat (first | exact HR0.out | (with_reducible refine Kd.C_alloc ?_ _) | (with_reducible refine Kd.C_drewN ?_ _) | (with_reducible refine Kd.C_drew ?_))); (case side2 => exact HC0.out); rintro e w13 ⟨rfl, hb⟩; refine ⟨_, rfl, ?_⟩; have n0_ := Aside0.mk (below_step (bw HB.out) hb); replace HB := n0_; clear n0_; (try clear hb); (try clear hb2); (try clear hk); (try clear hi)))
  go_ret
  exact ⟨by first | rfl | (simp [errW_none, errW_some] <;> rfl) | (simp [*, errW_none, errW_some] <;> rfl), bw HB.out⟩
 subst c4
 have H1 : (if a1 = 1 then (some true) else ((impl_within.f a1 2 4).bind fun t395 => (if t395 = true then ((impl_isPlain.f k l0).bind fun t396 => (some t396)) else (some false)))) = some r := by rw [if_pos rfl] at H; exact H
 clear H
 have H := H1
 clear H1
 by_cases c5 : a1 = 1
 ·rw [if_pos c5] at H
  have c5b0 : (a1 == 1) = true := beq_iff_eq.mpr c5
  have c5b1 : (a1 != 1) = false := bne_eq_false_iff_eq.mpr c5
  clear c5
  obtain rfl := Option.some.inj H
  go_enter Try.func32, Try.ntmps32
  go_wp2_with (first | ((with_reducible refine gate_callee (f := 29) rfl ?_); refine goesL_ (some 6) rfl rfl Try.func29 (by kernel_rfl) rfl #[.slice A0 l0.length c0] rfl (by (try simp only [mA_]); first | done | rfl | (simp only [List.length_drop, List.length_take]; rfl)) ?_; (with_reducible refine (impl_IsJobs.calls k _ _ l0 true _ ?side1 ?side2 A3.out).mono ?_); (case side1 => repeat (first | exact HR0.out | (with_reducible refine Kd.C_alloc ?_ _) | (with_reducible refine Kd.C_drewN ?_ _) | (with_reducible refine Kd.C_drew ?_))); (case side2 => exact HC0.out); rintro e w6 ⟨rfl, hb⟩; refine ⟨_, rfl, ?_⟩; have n0_ := Aside0.mk (below_step (bw HB.out) hb); replace HB := n0_; clear n0_; (try clear hb); (try clear hb2); (try clear hk); (try clear hi)))
  go_ret
  exact ⟨by first | rfl | (simp [errW_none, errW_some] <;> rfl) | (simp [*, errW_none, errW_some] <;> rfl), bw HB.out⟩
 rw [if_neg c5] at H
 have c5b0 : (a1 == 1) = false := beq_eq_false_iff_ne.mpr c5
 have c5b1 : (a1 != 1) = true := bne_iff_ne.mpr c5
 replace H := Option.bind_eq_some_iff.mp H
 obtain ⟨t395, A70, H⟩ := H
 replace H : (if t395 = true then ((impl_isPlain.f k l0).bind fun t396 => (some t396)) else (some false)) = some r := H
 have A7 := Aside0.mk A70
 clear A70
 by_cases c8 : t395 = true
 rotate_left
 ·replace c8 := Bool.eq_false_iff.mpr c8
  subst c8
  have H1 : (some false) = some r := by rw [if_neg (show ¬ (false = true) by decide)] at H; exact H
  clear H
  have H := H1
  clear H1
  obtain rfl := Option.some.inj H
  go_enter Try.func32, Try.ntmps32
  go_wp2_with (first | ((with_reducible refine gate_callee (f := 29) rfl ?_); refine goesL_ (some 6) rfl rfl Try.func29 (by kernel_rfl) rfl #[.slice A0 l0.length c0] rfl (by (try simp only [mA_]); first | done | rfl | (simp only [List.length_drop, List.length_take]; rfl)) ?_; (with_reducible refine (impl_IsJobs.calls k _ _ l0 true _ ?side1 ?side2 A3.out).mono ?_); (case side1 => repeat (first | exact HR0.out | (with_reducible refine Kd.C_alloc ?_ _) | (with_reducible refine Kd.C_drewN ?_ _) | (with_reducible refine Kd.C_drew ?_))); (case side2 => exact HC0.out); rintro e w12 ⟨rfl, hb⟩; refine ⟨_, rfl, ?_⟩; have n0_ := Aside0.mk (below_step (bw HB.out) hb); replace HB := n0_; clear n0_; (try clear hb); (try clear hb2); (try clear hk); (try clear hi)) | (go_at_call 30; (with_reducible refine (impl_within.calls a1 2 4 false _ A7.out).mono ?_); rintro e w' ⟨rfl, ⟨nd, rfl⟩⟩))
  go_ret
  exact ⟨by first | rfl | (simp [errW_none, errW_some] <;> rfl) | (simp [*, errW_none, errW_some] <;> rfl), bw HB.out⟩
 subst c8
 have H1 : ((impl_isPlain.f k l0).bind fun t396 => (some t396)) = some r := by rw [if_pos rfl] at H; exact H
 clear H
 have H := H1
 clear H1
 replace H := Option.bind_eq_some_iff.mp H
 obtain ⟨t396, A90, H⟩ := H
 replace H : (some t396) = some r := H
 have A9 := Aside0.mk A90
 clear A90
 obtain rfl := Option.some.inj H
 go_enter Try.func32, Try.ntmps32
 go_wp2_with (first | ((with_reducible refine gate_callee (f := 29) rfl ?_); refine goesL_ (some 6) rfl rfl Try.func29 (by kernel_rfl) rfl #[.slice A0 l0.length c0] rfl (by (try simp only [mA_]); first | done | rfl | (simp only [List.length_drop, List.length_take]; rfl)) ?_; (with_reducible refine (impl_IsJobs.calls k _ _ l0 true _ ?side1 ?side2 A3.out).mono ?_); (case side1 => repeat (first | exact HR0.out | (with_reducible refine Kd.C_alloc ?_ _) | (with_reducible refine Kd.C_drewN ?_ _) | (with_reducible refine Kd.C_drew ?_))); (case side2 => exact HC0.out); rintro e w10 ⟨rfl, hb⟩; refine ⟨_, rfl, ?_⟩; have n0_ := Aside0.mk (below_step (bw HB.out) hb); replace HB := n0_; clear n0_; (try clear hb); (try clear hb2); (try clear hk); (try clear hi)) | (go_at_call 30; (with_reducible refine (impl_within.calls a1 2 4 true _ A7.out).mono ?_); rintro e w' ⟨rfl, ⟨nd, rfl⟩⟩) | (go_at_call 39; (with_reducible refine (impl_isPlain.calls k _ _ l0 t396 _ ?side1 ?side2 A9.out).mono ?_); (case side1 => repeat (first | exact (Kd.C_below HR0.out (bw HB.out)) | (with_reducible refine Kd.C_alloc ?_ _) | (with_reducible refine Kd.C_drewN ?_ _) | (with_reducible refine Kd.C_drew ?_))); (case side2 => exact HC0.out); rintro e w11 ⟨rfl, hb⟩; have n0_ := Aside0.mk (below_step (bw HB.out) hb); replace HB := n0_; clear n0_; (try clear hb); (try clear hb2); (try clear hk); (try clear hi)))
 go_ret
 exact ⟨by first | rfl | (simp [errW_none, errW_some] <;> rfl) | (simp [*, errW_none, errW_some] <;> rfl), bw HB.out⟩

/-! ### impl_sortedBy: function 46 -/
def impl_sortedBy.f (l0 : List (Int)) : Option (List Int) := none   -- (its closure is not in the printed shape: callers are written by hand)
/-- Where a number is put: behind all that it should not be ahead of. -/
def impl_sortedBy.insK (p : Int → Int → Option Bool) (i : Int) (out : List Int) : Nat → Option Nat
 | 0 => some 0
 | k + 1 => (p i (rd out (k : Int))).bind fun b => if b = true then impl_sortedBy.insK p i out k else some (k + 1)
def impl_sortedBy.insL (out : List Int) (k : Nat) (i : Int) : List Int := out.take k ++ i :: out.drop k
def impl_sortedBy.sortO (p : Int → Int → Option Bool) : List Int → List Int → Option (List Int)
 | [], out => some out
 | i :: r, out => (impl_sortedBy.insK p i out out.length).bind fun k => impl_sortedBy.sortO p r (impl_sortedBy.insL out k i)
theorem impl_sortedBy.insK_le {p : Int → Int → Option Bool} {i : Int} {out : List Int} : ∀ {n k : Nat}, impl_sortedBy.insK p i out n = some k → k ≤ n
 | 0, k, h => by
  simp only [impl_sortedBy.insK, Option.some.injEq] at h
  omega
 | n + 1, k, h => by
  rw [impl_sortedBy.insK] at h
  obtain ⟨b, hb, h⟩ := Option.bind_eq_some_iff.mp h
  cases b with
  | true => rw [if_pos rfl] at h; have := impl_sortedBy.insK_le h; omega
  | false => simp only [Bool.false_eq_true, if_false, Option.some.injEq] at h; omega
theorem impl_sortedBy.insK_exit {p : Int → Int → Option Bool} {i : Int} {out : List Int} {n k : Nat} (h : impl_sortedBy.insK p i out n = some k) (hc : ¬ ∃ m, n = m + 1 ∧ p i (rd out (m : Int)) = some true) : n = k ∧ (n = 0 ∨ ∃ m, n = m + 1 ∧ p i (rd out (m : Int)) = some false) := by
 cases n with
 | zero =>
  simp only [impl_sortedBy.insK, Option.some.injEq] at h
  exact ⟨h, .inl rfl⟩
 | succ m =>
  rw [impl_sortedBy.insK] at h
  obtain ⟨b, hb, h⟩ := Option.bind_eq_some_iff.mp h
  cases b with
  | true => exact absurd ⟨m, rfl, hb⟩ hc
  | false =>
   simp only [Bool.false_eq_true, if_false, Option.some.injEq] at h
   exact ⟨h, .inr ⟨m, rfl, hb⟩⟩
/-- What a function value answers for numbers that p answers, in every later world; it may draw and may lay new things. -/
def impl_sortedBy.AheadAt (g : Nat) (lb : Array Value) (p : Int → Int → Option Bool) (w : World) : Prop :=
 ∀ (W : World) (a b : Int) (r : Bool), Below w.heap.size w W → p a b = some r → Calls Try.prog g (#[.int .i64 a, .int .i64 b] ++ lb) W fun e w' => e = .returned (.bool r) ∧ Below W.heap.size W w'
theorem impl_sortedBy.sort_copied {W : World} {base go n c : Nat} {ok : Nat → Prop} {xs : List Int} (h : Kd.R (Kd.int .i64) 3 W base ok (.slice (some ⟨go, 0, none⟩) n c) xs) (hp : 0 < n) :
  ∃ cur : List Value, W.heap[go]? = some (.cells cur.toArray 3 (0, 0)) ∧ base ≤ go ∧ n ≤ cur.length ∧ ∀ (cs : List Int) (off : Nat) (W9 : World), off + cs.length ≤ n → W9.heap[go]? = some (.cells (splice cur off (cs.map (Value.int .i64))).toArray 3 (0, 0)) →
   Kd.R (Kd.int .i64) 3 W9 base ok (.slice (some ⟨go, 0, none⟩) n c) (xs.take off ++ (cs ++ xs.drop (off + cs.length))) := by
 have hown := Kd.own_of_R (show (Kd.scalar (Value.int .i64) (fun _ => rfl)).R 3 W base ok _ xs from h)
 obtain ⟨hl, hd⟩ := hown
 rcases hd with ⟨hv, _⟩ | ⟨g', cap', cur, hv, hb, hh, hnc, hcm, hcs, ht⟩
 ·cases hv
 ·injection hv with ha hn hc
  injection ha with ha
  injection ha with hg
  subst hg hc
  subst hn
  refine ⟨cur.toList, by simpa using hh, hb, by simp; omega, fun cs off W9 hfit h9 => ?_⟩
  refine Kd.R_of_own ⟨by simp [encs], .inr ⟨go, c, (splice cur.toList off (cs.map (Value.int .i64))).toArray, ?_, hb, h9, ?_, hcm, ?_, ?_⟩⟩ h.1
  ·simp; omega
  ·simp; omega
  ·have := length_splice cur.toList off (cs.map (Value.int .i64)) (by simp; omega)
   simpa [hcs] using this
  ·have e : (xs.take off ++ (cs ++ xs.drop (off + cs.length))).length = xs.length := by simp; omega
   rw [e, Nat.mul_one]
   rw [Nat.mul_one] at ht
   have e2 : cur.toList = encs (Value.int .i64) xs ++ cur.toList.drop xs.length := by
    rw [← ht]
    exact (List.take_append_drop _ _).symm
   generalize cur.toList.drop xs.length = s at e2
   have hE : (encs (Value.int .i64) xs).length = xs.length := encs_length xs
   show (splice cur.toList off (cs.map (Value.int .i64))).take xs.length = _
   rw [splice, e2, show (encs (Value.int .i64) xs ++ s).take off = (encs (Value.int .i64) xs).take off from List.take_append_of_le_length (by omega), show (encs (Value.int .i64) xs ++ s).drop (off + (cs.map (Value.int .i64)).length) = (encs (Value.int .i64) xs).drop (off + (cs.map (Value.int .i64)).length) ++ s from List.drop_append_of_le_length (by rw [List.length_map]; omega)]
   rw [show (encs (Value.int .i64) xs).take off ++ (cs.map (Value.int .i64) ++ ((encs (Value.int .i64) xs).drop (off + (cs.map (Value.int .i64)).length) ++ s)) = ((encs (Value.int .i64) xs).take off ++ (cs.map (Value.int .i64) ++ (encs (Value.int .i64) xs).drop (off + (cs.map (Value.int .i64)).length))) ++ s from by simp only [List.append_assoc]]
   rw [List.take_left' (by simp only [List.length_append, List.length_take, List.length_map, List.length_drop, hE]; omega)]
   simp only [encs, List.map_append, List.map_take, List.map_drop, List.length_map]
theorem impl_sortedBy.set_copied {out : List Int} {k : Nat} (x : Int) (h : k ≤ out.length) : ((out ++ [0]).take (k + 1) ++ out.drop k).set k x = impl_sortedBy.insL out k x := by
 have hA : ((out ++ [0]).take (k + 1)).length = k + 1 := by rw [List.length_take, List.length_append, List.length_singleton]; omega
 rw [List.set_eq_take_append_cons_drop, if_pos (by rw [List.length_append, hA]; omega), List.take_append_of_le_length (by omega), List.take_take, Nat.min_eq_left (by omega), List.take_append_of_le_length h, List.drop_left' hA]
 rfl
set_option maxHeartbeats 1600000 in
set_option maxRecDepth 100000 in
theorem impl_sortedBy.calls (g : Nat) (lb : Array Value) (p : Int → Int → Option Bool) (A0 : Option Addr) (c0 : Nat) (l0 r : List Int) (w : World) (hr0 : Kd.C (Kd.int .i64) w A0 l0.length l0) (hc0 : l0.length ≤ c0) (hl : l0.length ≤ 1000000)
  (heg : ∀ args w, (callFunc g args).run Try.prog w = .ok (.enter g args) w) (hp : impl_sortedBy.AheadAt g lb p w) (h : impl_sortedBy.sortO p l0 [] = some r) :
  Calls Try.prog 46 #[.slice A0 l0.length c0, .func (.func g) #[] lb] w fun e w' => ∃ v0_ : Value, e = .returned v0_ ∧ Kd.R (Kd.int .i64) 3 w' w.heap.size (fun _ => True) v0_ r ∧ Below w.heap.size w w' := by
 have HR0 := Aside0.mk hr0
 have HC0 := Aside0.mk hc0
 have HL := Aside0.mk hl
 have HP := Aside0.mk hp
 have HEG := Aside0.mk heg
 clear hr0 hc0 hp heg hl
 have HB := Aside0.mk (Below.refl w.heap.size w)
 have H' := Aside0.mk h
 clear h
 go_enter Try.func46, Try.ntmps46
 go_wp2
 go_loopg [5, 11] l0.length (fun kq v5 v11 w' => ∃ (i : Int) (pre rest out : List Int), v11 = .int .i64 i ∧ Aside0 (i = (pre.length : Int)) ∧ Aside0 (l0 = pre ++ rest) ∧ Aside0 (rest.length = kq) ∧ Aside0 (out.length = pre.length) ∧ Aside0 (impl_sortedBy.sortO p rest out = some r) ∧ Aside0 (Kd.R (Kd.int .i64) 3 w' w.heap.size (fun _ => True) v5 out) ∧ Aside0 (Below w.heap.size w w'))
 case atStart => exact ⟨0, [], l0, [], rfl, ⟨rfl⟩, ⟨rfl⟩, ⟨rfl⟩, ⟨rfl⟩, H', ⟨Kd.R_nil _ _ _ _ _⟩, HB⟩
 case round =>
  clear H' HB
  obtain ⟨i, pre, rest, out, rfl, HI, HA, HN, HO, H, HR, HB⟩ := hrel
  have hlen : l0.length = pre.length + rest.length := by rw [HA.out, List.length_append]
  have hi0 := HI.out
  cases rest with
  | nil =>
   simp only [List.length_nil, Nat.add_zero] at hlen
   have e3 : decide (i < (l0.length : Int)) = false := decide_eq_false (by omega)
   obtain rfl : out = r := by
    have := H.out
    simpa [impl_sortedBy.sortO] using this
   clear hlen hi0
   go_wp2
   go_ret
   exact ⟨_, rfl, HR.out, HB.out⟩
  | cons x rest =>
   simp only [List.length_cons] at hlen
   have hl9 := HL.out
   have e3 : decide (i < (l0.length : Int)) = true := decide_eq_true (by omega)
   have p1 : 0 ≤ i := by omega
   have q1 : i < (l0.length : Int) := by omega
   have hx : rd l0 i = x := by
    rw [HA.out, hi0]
    show (pre ++ x :: rest).getD (pre.length : Int).toNat 0 = x
    simp
   obtain ⟨ad, ea, hxc⟩ := Kd.at_int (Kd.C_below HR0.out HB.out) i p1 q1
   rw [hx] at hxc
   cases ea
   have HX := Aside0.mk hx
   clear hx
   obtain ⟨kk, hkk, hrest⟩ := Option.bind_eq_some_iff.mp (show (impl_sortedBy.insK p x out out.length).bind _ = some r from H.out)
   have HK := Aside0.mk hkk
   have HS := Aside0.mk hrest
   clear hkk hrest
   obtain ⟨Ao, co, eo⟩ := Kd.R_slice HR.out
   subst eo
   have HOL := Aside0.mk (show out.length ≤ 1000000 from by have := HO.out; omega)
   have p1b := eq_true p1
   have q1b := eq_true q1
   have HLN := Aside0.mk hlen
   clear hlen hi0 hl9 p1 q1
   go_wp2
   go_loopg [8] out.length (fun kq v8 w' => ∃ (j : Int) (n : Nat), v8 = .int .i64 j ∧ Aside0 (j = (n : Int)) ∧ Aside0 (n = kq) ∧ Aside0 (n ≤ out.length) ∧ Aside0 (impl_sortedBy.insK p x out n = some kk) ∧ Aside0 (Kd.R (Kd.int .i64) 3 w' w.heap.size (fun _ => True) (.slice Ao out.length co) out) ∧ Aside0 (Below w.heap.size w w'))
   case atStart => exact ⟨_, out.length, rfl, ⟨rfl⟩, ⟨rfl⟩, ⟨Nat.le_refl _⟩, HK, HR, HB⟩
   case round =>
    clear HK HR HB hxc
    obtain ⟨j, n, rfl, HJ, HN2, HNL, HK, HR, HB⟩ := hrel
    by_cases hcont : ∃ m, n = m + 1 ∧ p x (rd out (m : Int)) = some true
    ·obtain ⟨m, rfl, hpx⟩ := hcont
     have hj := HJ.out
     have hnl := HNL.out
     have hol := HOL.out
     have HK2 : Aside0 (impl_sortedBy.insK p x out m = some kk) := ⟨by have := HK.out; rw [impl_sortedBy.insK, hpx] at this; exact this⟩
     have d1 : decide (0 < j) = true := decide_eq_true (by omega)
     have d2 : 0 ≤ j - 1 := by omega
     have d3 : j - 1 < (out.length : Int) := by omega
     have d6 : j ≤ 1000000 := by omega
     have d7 : 0 < j := by omega
     have hw : wrap64 (j - 1) = j - 1 := by unfold wrap64; omega
     have hw2 : IntKind.i64.wrap (j - 1) = j - 1 := (i64_w _).trans hw
     obtain ⟨ad2, ea2, hc2⟩ := Kd.at_int (Kd.R_reads' HR.out).2.2 (j - 1) d2 d3
     have e5 : rd out (j - 1) = rd out (m : Int) := by rw [hj]; congr 1; omega
     have e6 : (j - 1).toNat = j.toNat - 1 := by omega
     rw [e5, e6] at hc2
     cases ea2
     have HCALL := Aside0.mk (HP.out wr x (rd out (m : Int)) true HB.out hpx)
     have eg := HEG.out
     have HM := Aside0.mk (show j - 1 = (m : Int) by omega)
     have d2b := eq_true d2
     have d3b := eq_true d3
     have HPX := Aside0.mk hpx
     clear hj hnl hol hpx e5 e6
     go_wp2_with ((with_reducible refine (HCALL.out).mono ?_); rintro e w' ⟨rfl, hbc⟩; have n0 := Aside0.mk (Kd.R_below HR.out hbc); have n1 := Aside0.mk (below_step HB.out hbc); clear hbc HR HB; have HR := n0; have HB := n1; clear n0 n1 HCALL)
     go_roundg m
     case measure =>
      have := HN2.out
      omega
     case rel => exact ⟨_, m, rfl, HM, ⟨rfl⟩, ⟨by have := HNL.out; omega⟩, HK2, HR, HB⟩
    obtain ⟨hkn, hex⟩ := impl_sortedBy.insK_exit HK.out hcont
    clear hcont
    have hj := HJ.out
    have hnl := HNL.out
    have hol := HOL.out
    rcases hex with hn0 | ⟨m, hm, hpx⟩
    ·have d1 : decide (0 < j) = false := decide_eq_false (by omega)
     have HKK := Aside0.mk (show j = (kk : Int) by omega)
     have HKL := Aside0.mk (show kk ≤ out.length by omega)
     clear hn0 hj hnl hol hkn
     go_wp2_with (((with_reducible refine gate_builtin (b := .append) (xs := #[.tmp 31, .tmp 32]) rfl ?_); at_builtin; refine Kd.R_append (Kd.int .i64) (w0 := w) w.heap.size rfl (.tmp 31) (.tmp 32) 25 3 (.int .i64 0) 8 rfl Try.underlying25 (show (Try.prog.info? 3).map (fun i => (i.zero, i.size, i.bytes)) = some (some (.int .i64 0), 1, 8) from by kernel_rfl) rfl (by decide) (by omega) (.slice Ao out.length co) out 0 [.int .i64 0] (fun _ => True) (fun _ => False) rfl rfl ?aP (fun _ hk => hk.elim) ?aF ?aO ?aB ?aS ?aL ?_; (case aP => exact rfl); (case aB => exact bw HB.out); (case aF => exact (fun _ _ => trivial)); (case aO => exact (bR HR.out)); (case aS => exact (below_size (bw HB.out))); (case aL => have := HOL.out; omega); intro v8 w8 ho hb hg hat; have HR2 := Aside0.mk ho; have HB2 := Aside0.mk hb; clear ho hb hg hat HR HB; obtain ⟨A2, c2, e2⟩ := Kd.R_slice HR2.out; subst e2))
     cases HKK
     obtain ⟨go, c3, e3_, gb, gl, HG⟩ := Kd.R_form HR2.out (by simp)
     have ec_ : c2 = c3 := by injection e3_
     have eA_ : A2 = some ⟨go, 0, none⟩ := by injection e3_
     subst ec_ eA_
     clear e3_
     have HFC := Aside0.mk (show out.length + 1 ≤ c2 from by have := (Kd.R_reads' HR2.out).2.1; simpa using this)
     have HG_ := Aside0.mk HG
     have HGB := Aside0.mk gb
     clear HG gb gl
     have u1 : wrap64 ((kk : Int) + 1) = (kk : Int) + 1 := by have := HKL.out; have := HOL.out; unfold wrap64; omega
     have u2 : IntKind.i64.wrap ((kk : Int) + 1) = (kk : Int) + 1 := (i64_w _).trans u1
     have v1 : 0 ≤ (kk : Int) + 1 := by omega
     have v2 : (kk : Int) + 1 ≤ (out.length : Int) + 1 := by have := HKL.out; omega
     have v3 : (kk : Int) ≤ (out.length : Int) + 1 := by have := HKL.out; omega
     have v4 : 0 ≤ (kk : Int) := by omega
     have v5 : kk ≤ out.length := HKL.out
     have v6 : ¬ c2 = kk := by have := HKL.out; have := HFC.out; omega
     have v7 : ((kk : Int) + 1).toNat = kk + 1 := by omega
     go_still_tail 7, (show Try.prog.follows .mixedOrders = true from by rfl)
     obtain ⟨cur, hcur, hgo, hcl, hcopy⟩ := impl_sortedBy.sort_copied HR2.out (by simp)
     have HCP := Aside0.mk hcopy
     clear hcopy
     refine wpList_copy_splice rfl (.tmp 37) (.tmp 40) 25 25 rfl 3 Try.underlying25 (by kernel_rfl) (if c2 = kk + 1 then some ⟨go, 0, none⟩ else some ⟨go, kk + 1, none⟩) (some ⟨go, kk, none⟩) (out.length - kk) (c2 - (kk + 1)) (out.length + 1 - kk) (c2 - kk) rfl rfl go (kk + 1) cur 3 hcur ((out.drop kk).map (Value.int .i64)) ?cn ?cp ?cf ?c1 w.heap.size w ?cb hgo ?_
     case cn => rw [List.length_map, List.length_drop]; exact (Nat.min_eq_right (by omega)).symm
     case cp =>
      intro hpos
      have hpos' : kk < out.length := by simp at hpos; omega
      have := HFC.out
      refine ⟨if_neg (by omega), ⟨go, kk, none⟩, rfl, fun j v hj => ?_⟩
      rw [List.getElem?_map, List.getElem?_drop] at hj
      obtain ⟨y, hy, rfl⟩ := Option.map_eq_some_iff.mp hj
      have hlt := (List.getElem?_eq_some_iff.mp hy).1
      have hc8 := (Kd.R_celln 0 HR2.out ((kk + j : Nat) : Int) (by omega) (by rw [List.length_append, List.length_singleton]; omega)).1
      rw [Int.toNat_natCast, show rdOf 0 (out ++ [0]) ((kk + j : Nat) : Int) = y from by unfold rdOf; rw [Int.toNat_natCast, List.getD_eq_getElem?_getD, List.getElem?_append_left hlt, hy]; rfl] at hc8
      rw [show (⟨go, kk, none⟩ : Addr).add j = ⟨go, kk + j, none⟩ from by first | rfl | (simp only [add_plain]; done) | simp [Addr.add]]
      first | exact hc8 | (show (w8.drewN 1).cell? _ = _; simpa using hc8)
     case cf => simp; simp at hcl; omega
     case c1 => intro v hv; obtain ⟨y, _, rfl⟩ := List.mem_map.mp hv; rfl
     case cb => exact pw_below_drewN HB2.out 1
     intro w9 hg9 hb9
     have HR9 := Aside0.mk (HCP.out (out.drop kk) (kk + 1) w9 (by simp; omega) hg9)
     have HB9 := Aside0.mk hb9
     clear hg9 hb9 HCP hcur HR2 HB2 hcl
     generalize (if c2 = kk + 1 then some (⟨go, 0, none⟩ : Addr) else some ⟨go, kk + 1, none⟩) = A37
     have hkl := HKL.out
     have HR10 := Aside0.mk (show Kd.R (Kd.int .i64) 3 w9 w.heap.size (fun _ => True) (.slice (some ⟨go, 0, none⟩) (out.length + 1) c2) ((out ++ [0]).take (kk + 1) ++ out.drop kk) from by
      have := HR9.out
      rw [List.length_drop, show List.drop (kk + 1 + (out.length - kk)) (out ++ [0]) = [] from List.drop_of_length_le (by rw [List.length_append, List.length_singleton]; omega), List.append_nil, List.length_append, List.length_singleton] at this
      exact this)
     clear HR9
     obtain ⟨hy, hz⟩ := Kd.R_celln 0 HR10.out (kk : Int) v4 (by omega)
     have HP10 := Kd.R_putg HR10.out (kk : Int) x
     rw [Int.toNat_natCast] at hy hz HP10
     have w1_ : (kk : Int) < (out.length : Int) + 1 := by omega
     clear hkl
     go_wp2_with ((with_reducible refine gate_store (t := 3) (p := 45) rfl ?_); refine store_event (t := 3) (p := 45) (v := ?vo_w78) (w1 := (w9.setCell ⟨go, kk, none⟩ (.int .i64 x))) ?hg ?ho ?hn ?hr ?_; (case ho => rfl); (case hg => rfl); (case hn => rfl); (case hr => first | (go_simp; done) | (go_simp; rfl)); intro w10 hw; have HR11 := Aside0.mk (show Kd.R (Kd.int .i64) 3 w10 w.heap.size (fun _ => True) (.slice (some ⟨go, 0, none⟩) (out.length + 1) c2) (((out ++ [0]).take (kk + 1) ++ out.drop kk).set kk x) from (by rw [hw]; exact HP10.1)); have HB11 := Aside0.mk ((by rw [hw]; exact below_set HB9.out hgo : Below w.heap.size w w10)); clear HP10 hw HR10 HB9)
     clear hy hz
     go_roundg rest.length
     case measure =>
      have := HN.out
      simp only [List.length_cons] at this
      omega
     case rel =>
      have hi := HI.out
      have hl := HL.out
      have hw1 : wrap64 (i + 1) = i + 1 := by
       have := HLN.out
       unfold wrap64
       omega
      refine ⟨_, pre ++ [x], rest, impl_sortedBy.insL out kk x, rfl, ⟨?_⟩, ⟨?_⟩, ⟨rfl⟩, ⟨?_⟩, HS, ⟨?_⟩, HB11⟩
      ·rw [hw1, List.length_append, List.length_singleton]
       omega
      ·rw [HA.out, List.append_assoc]
       rfl
      ·have := HO.out
       simp only [impl_sortedBy.insL, List.length_append, List.length_take, List.length_cons, List.length_drop, List.length_nil]
       have := HKL.out
       omega
      ·rw [← impl_sortedBy.set_copied x HKL.out]
       exact HR11.out
    ·have d1 : decide (0 < j) = true := decide_eq_true (by omega)
     have d2 : 0 ≤ j - 1 := by omega
     have d3 : j - 1 < (out.length : Int) := by omega
     have d6 : j ≤ 1000000 := by omega
     have d7 : 0 < j := by omega
     have hw : wrap64 (j - 1) = j - 1 := by unfold wrap64; omega
     have hw2 : IntKind.i64.wrap (j - 1) = j - 1 := (i64_w _).trans hw
     obtain ⟨ad2, ea2, hc2⟩ := Kd.at_int (Kd.R_reads' HR.out).2.2 (j - 1) d2 d3
     have e5 : rd out (j - 1) = rd out (m : Int) := by rw [hj]; congr 1; omega
     have e6 : (j - 1).toNat = j.toNat - 1 := by omega
     rw [e5, e6] at hc2
     cases ea2
     have HCALL := Aside0.mk (HP.out wr x (rd out (m : Int)) false HB.out hpx)
     have eg := HEG.out
     have HKK := Aside0.mk (show j = (kk : Int) by omega)
     have HKL := Aside0.mk (show kk ≤ out.length by omega)
     have d2b := eq_true d2
     have d3b := eq_true d3
     clear hj hnl hol hpx e5 e6 hkn hm
     go_wp2_with (first | ((with_reducible refine (HCALL.out).mono ?_); rintro e w' ⟨rfl, hbc⟩; have n0 := Aside0.mk (Kd.R_below HR.out hbc); have n1 := Aside0.mk (below_step HB.out hbc); clear hbc HR HB; have HR := n0; have HB := n1; clear n0 n1 HCALL) | (((with_reducible refine gate_builtin (b := .append) (xs := #[.tmp 31, .tmp 32]) rfl ?_); at_builtin; refine Kd.R_append (Kd.int .i64) (w0 := w) w.heap.size rfl (.tmp 31) (.tmp 32) 25 3 (.int .i64 0) 8 rfl Try.underlying25 (show (Try.prog.info? 3).map (fun i => (i.zero, i.size, i.bytes)) = some (some (.int .i64 0), 1, 8) from by kernel_rfl) rfl (by decide) (by omega) (.slice (some ad2) out.length co) out 0 [.int .i64 0] (fun _ => True) (fun _ => False) rfl rfl ?aP (fun _ hk => hk.elim) ?aF ?aO ?aB ?aS ?aL ?_; (case aP => exact rfl); (case aB => exact bw HB.out); (case aF => exact (fun _ _ => trivial)); (case aO => exact (bR HR.out)); (case aS => exact (below_size (bw HB.out))); (case aL => have := HOL.out; omega); intro v8 w8 ho hb hg hat; have HR2 := Aside0.mk ho; have HB2 := Aside0.mk hb; clear ho hb hg hat HR HB; obtain ⟨A2, c2, e2⟩ := Kd.R_slice HR2.out; subst e2)))
     cases HKK
     obtain ⟨go, c3, e3_, gb, gl, HG⟩ := Kd.R_form HR2.out (by simp)
     have ec_ : c2 = c3 := by injection e3_
     have eA_ : A2 = some ⟨go, 0, none⟩ := by injection e3_
     subst ec_ eA_
     clear e3_
     have HFC := Aside0.mk (show out.length + 1 ≤ c2 from by have := (Kd.R_reads' HR2.out).2.1; simpa using this)
     have HG_ := Aside0.mk HG
     have HGB := Aside0.mk gb
     clear HG gb gl
     have u1 : wrap64 ((kk : Int) + 1) = (kk : Int) + 1 := by have := HKL.out; have := HOL.out; unfold wrap64; omega
     have u2 : IntKind.i64.wrap ((kk : Int) + 1) = (kk : Int) + 1 := (i64_w _).trans u1
     have v1 : 0 ≤ (kk : Int) + 1 := by omega
     have v2 : (kk : Int) + 1 ≤ (out.length : Int) + 1 := by have := HKL.out; omega
     have v3 : (kk : Int) ≤ (out.length : Int) + 1 := by have := HKL.out; omega
     have v4 : 0 ≤ (kk : Int) := by omega
     have v5 : kk ≤ out.length := HKL.out
     have v6 : ¬ c2 = kk := by have := HKL.out; have := HFC.out; omega
     have v7 : ((kk : Int) + 1).toNat = kk + 1 := by omega
     go_still_tail 7, (show Try.prog.follows .mixedOrders = true from by rfl)
     obtain ⟨cur, hcur, hgo, hcl, hcopy⟩ := impl_sortedBy.sort_copied HR2.out (by simp)
     have HCP := Aside0.mk hcopy
     clear hcopy
     refine wpList_copy_splice rfl (.tmp 37) (.tmp 40) 25 25 rfl 3 Try.underlying25 (by kernel_rfl) (if c2 = kk + 1 then some ⟨go, 0, none⟩ else some ⟨go, kk + 1, none⟩) (some ⟨go, kk, none⟩) (out.length - kk) (c2 - (kk + 1)) (out.length + 1 - kk) (c2 - kk) rfl rfl go (kk + 1) cur 3 hcur ((out.drop kk).map (Value.int .i64)) ?cn ?cp ?cf ?c1 w.heap.size w ?cb hgo ?_
     case cn => rw [List.length_map, List.length_drop]; exact (Nat.min_eq_right (by omega)).symm
     case cp =>
      intro hpos
      have hpos' : kk < out.length := by simp at hpos; omega
      have := HFC.out
      refine ⟨if_neg (by omega), ⟨go, kk, none⟩, rfl, fun j v hj => ?_⟩
      rw [List.getElem?_map, List.getElem?_drop] at hj
      obtain ⟨y, hy, rfl⟩ := Option.map_eq_some_iff.mp hj
      have hlt := (List.getElem?_eq_some_iff.mp hy).1
      have hc8 := (Kd.R_celln 0 HR2.out ((kk + j : Nat) : Int) (by omega) (by rw [List.length_append, List.length_singleton]; omega)).1
      rw [Int.toNat_natCast, show rdOf 0 (out ++ [0]) ((kk + j : Nat) : Int) = y from by unfold rdOf; rw [Int.toNat_natCast, List.getD_eq_getElem?_getD, List.getElem?_append_left hlt, hy]; rfl] at hc8
      rw [show (⟨go, kk, none⟩ : Addr).add j = ⟨go, kk + j, none⟩ from by first | rfl | (simp only [add_plain]; done) | simp [Addr.add]]
      first | exact hc8 | (show (w8.drewN 1).cell? _ = _; simpa using hc8)
     case cf => simp; simp at hcl; omega
     case c1 => intro v hv; obtain ⟨y, _, rfl⟩ := List.mem_map.mp hv; rfl
     case cb => exact pw_below_drewN HB2.out 1
     intro w9 hg9 hb9
     have HR9 := Aside0.mk (HCP.out (out.drop kk) (kk + 1) w9 (by simp; omega) hg9)
     have HB9 := Aside0.mk hb9
     clear hg9 hb9 HCP hcur HR2 HB2 hcl
     generalize (if c2 = kk + 1 then some (⟨go, 0, none⟩ : Addr) else some ⟨go, kk + 1, none⟩) = A37
     have hkl := HKL.out
     have HR10 := Aside0.mk (show Kd.R (Kd.int .i64) 3 w9 w.heap.size (fun _ => True) (.slice (some ⟨go, 0, none⟩) (out.length + 1) c2) ((out ++ [0]).take (kk + 1) ++ out.drop kk) from by
      have := HR9.out
      rw [List.length_drop, show List.drop (kk + 1 + (out.length - kk)) (out ++ [0]) = [] from List.drop_of_length_le (by rw [List.length_append, List.length_singleton]; omega), List.append_nil, List.length_append, List.length_singleton] at this
      exact this)
     clear HR9
     obtain ⟨hy, hz⟩ := Kd.R_celln 0 HR10.out (kk : Int) v4 (by omega)
     have HP10 := Kd.R_putg HR10.out (kk : Int) x
     rw [Int.toNat_natCast] at hy hz HP10
     have w1_ : (kk : Int) < (out.length : Int) + 1 := by omega
     clear hkl
     go_wp2_with ((with_reducible refine gate_store (t := 3) (p := 45) rfl ?_); refine store_event (t := 3) (p := 45) (v := ?vo_w78) (w1 := (w9.setCell ⟨go, kk, none⟩ (.int .i64 x))) ?hg ?ho ?hn ?hr ?_; (case ho => rfl); (case hg => rfl); (case hn => rfl); (case hr => first | (go_simp; done) | (go_simp; rfl)); intro w10 hw; have HR11 := Aside0.mk (show Kd.R (Kd.int .i64) 3 w10 w.heap.size (fun _ => True) (.slice (some ⟨go, 0, none⟩) (out.length + 1) c2) (((out ++ [0]).take (kk + 1) ++ out.drop kk).set kk x) from (by rw [hw]; exact HP10.1)); have HB11 := Aside0.mk ((by rw [hw]; exact below_set HB9.out hgo : Below w.heap.size w w10)); clear HP10 hw HR10 HB9)
     clear hy hz
     go_roundg rest.length
     case measure =>
      have := HN.out
      simp only [List.length_cons] at this
      omega
     case rel =>
      have hi := HI.out
      have hl := HL.out
      have hw1 : wrap64 (i + 1) = i + 1 := by
       have := HLN.out
       unfold wrap64
       omega
      refine ⟨_, pre ++ [x], rest, impl_sortedBy.insL out kk x, rfl, ⟨?_⟩, ⟨?_⟩, ⟨rfl⟩, ⟨?_⟩, HS, ⟨?_⟩, HB11⟩
      ·rw [hw1, List.length_append, List.length_singleton]
       omega
      ·rw [HA.out, List.append_assoc]
       rfl
      ·have := HO.out
       simp only [impl_sortedBy.insL, List.length_append, List.length_take, List.length_cons, List.length_drop, List.length_nil]
       have := HKL.out
       omega
      ·rw [← impl_sortedBy.set_copied x HKL.out]
       exact HR11.out

/-! ### impl_numbersTo: function 47 -/
def impl_numbersTo.l0 : Nat → Int → List Int → Int → Option (List Int)
 | 0, _, _, _ => none
 | k + 1, x0, x3, x4 => if x4 < x0 then (if x3.length < 17592186044416 then (impl_numbersTo.l0 k x0 (x3 ++ [x4]) (wrap64 (x4 + 1))) else (none)) else (some x3)
def impl_numbersTo.f (k : Nat) (a0 : Int) : Option (List Int) := impl_numbersTo.l0 k a0 ([] : List Int) 0
theorem impl_numbersTo.mono_l : ∀ k, (∀ y0 y1 y2, LeO (impl_numbersTo.l0 k y0 y1 y2) (impl_numbersTo.l0 (k + 1) y0 y1 y2))
 | 0 => fun _ _ _ r h => by simp [impl_numbersTo.l0] at h
 | k + 1 => by
  have ih0 := impl_numbersTo.mono_l k
  ·intro y0 y1 y2
   unfold impl_numbersTo.l0
   repeat' first
   | (with_reducible exact ih0 _ _ _)
   | (with_reducible exact LeO.refl _)
   | (with_reducible exact LeO.none _)
   | (with_reducible refine LeO.ite ?_ ?_)
   | (with_reducible refine LeO.bind ?_ (fun _ => ?_))
   | exact ih0 _ _ _
   | exact LeO.none _
   | refine LeO.ite ?_ ?_
   | refine LeO.bind ?_ (fun _ => ?_)
theorem impl_numbersTo.mono : ∀ a0 k, LeO (impl_numbersTo.f k a0) (impl_numbersTo.f (k + 1) a0) := by
 intro a0 k
 have ih0 := impl_numbersTo.mono_l k
 unfold impl_numbersTo.f
 repeat' first
   | (with_reducible exact ih0 _ _ _)
   | (with_reducible exact LeO.refl _)
   | (with_reducible exact LeO.none _)
   | (with_reducible refine LeO.ite ?_ ?_)
   | (with_reducible refine LeO.bind ?_ (fun _ => ?_))
   | exact ih0 _ _ _
   | exact LeO.none _
   | refine LeO.ite ?_ ?_
   | refine LeO.bind ?_ (fun _ => ?_)
set_option maxHeartbeats 8000000 in
set_option maxRecDepth 100000 in
theorem impl_numbersTo.calls (k : Nat) (a0 : Int) (r : List Int) (w : World) (h : impl_numbersTo.f k a0 = some r) :
  Calls Try.prog 47 #[.int .i64 a0] w fun e w' => ∃ v0_ : Value, e = .returned (v0_) ∧ Kd.R (Kd.int .i64) 3 w' w.heap.size (fun _ => True) v0_ r ∧ Below w.heap.size w w' := by
 have HB := Aside0.mk (Below.refl w.heap.size w)
 have H : (impl_numbersTo.l0 k a0 ([] : List Int) 0) = some r := h
 clear h
 have H' := Aside0.mk H
 clear H
 go_enter Try.func47, Try.ntmps47
 go_wp2
 go_loopg [3, 4] k (fun kq v3 v4 w' => ∃ (x3_1 : List Int) (x4_1 : Int), v4 = .int .i64 x4_1 ∧ Aside0 (impl_numbersTo.l0 kq a0 x3_1 x4_1 = some r) ∧ Aside0 (kq ≤ k) ∧ Aside0 (Kd.R (Kd.int .i64) 3 w' w.heap.size (fun _ => True) v3 x3_1) ∧ Aside0 (Below w.heap.size w w'))
 case atStart => exact ⟨(([] : List Int)), (0), (by first | rfl | (simp; done) | (simp [*]; done)), H', ⟨Nat.le_refl _⟩, ⟨by first | exact Kd.R_nil _ _ _ _ _ | exact Kd.N_nil _ _ _ _ _ | exact Kd.V_nil _ _ _ _ _ | exact Kd.Q_nil _ _ _ _ _ | exact Kd.S_nil _ _ _ _ _⟩, ⟨bw HB.out⟩⟩
 case round =>
  clear H'
  obtain ⟨x3_1, x4_1, rfl, HA, HK1, HO_3, HB⟩ := hrel
  cases gk with
  | zero => exact absurd HA.out (by simp [impl_numbersTo.l0])
  | succ k1 =>
   have H := HA.out
   clear HA
   simp only [impl_numbersTo.l0] at H
   by_cases c2 : x4_1 < a0
   rotate_left
   ·rw [if_neg c2] at H
    have c2b0 : decide (x4_1 < a0) = false := decide_eq_false c2
    clear c2
    obtain rfl := Option.some.inj H
    go_wp2
    go_ret
    exact ⟨_, by first | rfl | (simp [errW_none, errW_some] <;> rfl) | (simp [*, errW_none, errW_some] <;> rfl), by (with_reducible repeat (first | apply Kd.R_alloc | apply Kd.R_drewN | apply Kd.R_drew)); exact HO_3.out, bw HB.out⟩
   rw [if_pos c2] at H
   have c2b0 : decide (x4_1 < a0) = true := decide_eq_true c2
   clear c2
   by_cases c3 : x3_1.length < 17592186044416
   rotate_left
   ·rw [if_neg c3] at H
    exact absurd H (by simp)
   rw [if_pos c3] at H
   have LMc3 := Aside0.mk c3
   clear c3
   obtain ⟨y397, hy397⟩ : ∃ y_ : List Int, y_ = (x3_1 ++ [x4_1]) := ⟨_, rfl⟩
   replace H : (impl_numbersTo.l0 k1 a0 y397 (wrap64 (x4_1 + 1))) = some r := by first | (rw [hy397]; with_reducible exact H) | (have H2_ := (Option.bind_some _ _).symm.trans H; rw [hy397]; with_reducible exact H2_) | (have H2_ := (Option.bind_some _ _).symm.trans H; with_reducible exact H2_) | with_reducible exact H | (rw [hy397]; exact H) | exact H
   have Ny397 := Aside0.mk hy397
   clear hy397
   have H' := Aside0.mk H
   clear H
   go_wp2_with (first | ((with_reducible refine gate_builtin (b := .append) (xs := #[.tmp 10, .tmp 12]) rfl ?_); at_builtin; refine Kd.R_append (Kd.int .i64) (w0 := w) w.heap.size rfl (.tmp 10) (.tmp 12) 25 3 (.int .i64 0) 8 rfl Try.underlying25 info3 rfl (by decide) (by omega) u3 x3_1 x4_1 [.int .i64 x4_1] (fun _ => True) (fun _ => False) rfl rfl ?aP (fun _ hk => hk.elim) ?aF ?aO ?aB ?aS ?aL ?_; (case aP => exact rfl); (case aB => exact (bw HB.out)); (case aF => exact (fun _ _ => trivial)); (case aO => exact (bR HO_3.out)); (case aS => exact (below_size (bw HB.out))); (case aL => have := LMc3.out; omega); intro v398 w4 ho hb hg hat; rw [← Ny397.out] at ho; have n0_ := Aside0.mk (hb); have n1_ := Aside0.mk (ho); clear HO_3; replace HB := n0_; have HO399 := n1_; clear n0_ n1_; clear ho hb hg hat))
   go_roundg k1
   case measure => have := HK1.out; omega
   case rel => exact ⟨(y397), (wrap64 (x4_1 + 1)), (by first | rfl | (simp; done) | (simp [*]; done)), H', ⟨by have := HK1.out; omega⟩, ⟨bR HO399.out⟩, ⟨bw HB.out⟩⟩

/-! ### impl_difference: function 49 -/
def impl_difference.f (a0_0 : Int) (a0_1 : Int) (a0_2 : Int) (a0_3 : Int) (a1_0 : Int) (a1_1 : Int) (a1_2 : Int) (a1_3 : Int) (a2 : Int) : Option (Int) := if a2 = 1 then (some (wrap64 (a0_2 - a1_2))) else (if a2 = 2 then (some (wrap64 (a0_0 - a1_0))) else (if a2 = 3 then (some (wrap64 ((wrap64 (a0_0 * a1_1)) - (wrap64 (a1_0 * a0_1))))) else (some (wrap64 (a0_3 - a1_3)))))
set_option maxHeartbeats 8000000 in
set_option maxRecDepth 100000 in
theorem impl_difference.calls (a0_0 : Int) (a0_1 : Int) (a0_2 : Int) (a0_3 : Int) (a1_0 : Int) (a1_1 : Int) (a1_2 : Int) (a1_3 : Int) (a2 : Int) (r : Int) (w : World) (h : impl_difference.f a0_0 a0_1 a0_2 a0_3 a1_0 a1_1 a1_2 a1_3 a2 = some r) :
  Calls Try.prog 49 #[.agg #[.int .i64 a0_0, .int .i64 a0_1, .int .i64 a0_2, .int .i64 a0_3], .agg #[.int .i64 a1_0, .int .i64 a1_1, .int .i64 a1_2, .int .i64 a1_3], .int .i64 a2] w fun e w' => e = .returned (.int .i64 r) ∧ Below w.heap.size w w' := by
 have hu38 := Try.underlying38
 have HB := Aside0.mk (Below.refl w.heap.size w)
 have H : (if a2 = 1 then (some (wrap64 (a0_2 - a1_2))) else (if a2 = 2 then (some (wrap64 (a0_0 - a1_0))) else (if a2 = 3 then (some (wrap64 ((wrap64 (a0_0 * a1_1)) - (wrap64 (a1_0 * a0_1))))) else (some (wrap64 (a0_3 - a1_3)))))) = some r := h
 clear h
 by_cases c4 : a2 = 1
 ·rw [if_pos c4] at H
  have c4b0 : (a2 == 1) = true := beq_iff_eq.mpr c4
  have c4b1 : (a2 != 1) = false := bne_eq_false_iff_eq.mpr c4
  clear c4
  obtain rfl := Option.some.inj H
  go_enter Try.func49, Try.ntmps49
  go_wp2_with (first | ((with_reducible refine gate_dst (N := 3) rfl ?_); refine box_event ?hg (N := 3) ?hd (cs := #[.int .i64 a0_0, .int .i64 a0_1, .int .i64 a0_2, .int .i64 a0_3]) (t := 38) ?hr ?_; (case hd => rfl); (case hg => rfl); (case hr => first | (go_simp; done) | (go_simp; rfl)); intro gb400 hg w5 hbox hb; have n0_ := Aside0.mk (below_step (bw HB.out) hb); have n1_ := Aside0.mk (hbox); have n2_ := ge_ hg HB.out; have n3_ := ge_ hg HB.out; replace HB := n0_; have BK400 := n1_; have GW400 := n2_; have GE400 := n3_; clear n0_ n1_ n2_ n3_; clear hb hbox hg) | ((with_reducible refine gate_dst (N := 4) rfl ?_); refine box_event ?hg (N := 4) ?hd (cs := #[.int .i64 a1_0, .int .i64 a1_1, .int .i64 a1_2, .int .i64 a1_3]) (t := 38) ?hr ?_; (case hd => rfl); (case hg => rfl); (case hr => first | (go_simp; done) | (go_simp; rfl)); intro gb401 hg w6 hbox hb; have n0_ := Aside0.mk (blk_below (bs BK400.out) hb); have n1_ := Aside0.mk (below_step (by repeat (first | (with_reducible first | exact bw HB.out | refine bset ?_ | apply bA | apply bN | apply bD) | exact HB.out)) hb); have n2_ := Aside0.mk (hbox); have n3_ := Aside0.mk ((by rw [hg]; exact (below_size (by repeat (first | (with_reducible first | exact bw HB.out | refine bset ?_ | apply bA | apply bN | apply bD) | exact HB.out))) : w.heap.size ≤ gb401)); have n4_ := Aside0.mk ((by rw [hg]; exact (below_size (by repeat (first | (with_reducible first | exact bw HB.out | refine bset ?_ | apply bA | apply bN | apply bD) | exact HB.out))) : w.heap.size ≤ gb401)); have n5_ := ne_ hg BK400.out; have n6_ := en_ hg BK400.out; replace BK400 := n0_; replace HB := n1_; have BK401 := n2_; have GW401 := n3_; have GE401 := n4_; have NB400_401 := n5_; have NB401_400 := n6_; clear n0_ n1_ n2_ n3_ n4_ n5_ n6_; clear hb hbox hg; have hnb7 := NB400_401.out; have hnc7 := NB401_400.out; obtain ⟨hcz8_0, hcz8_1, hcz8_2, hcz8_3, hfz8_0, hfz8_1, hfz8_2, hfz8_3⟩ := bz4 BK400.out; obtain ⟨hcz9_0, hcz9_1, hcz9_2, hcz9_3, hfz9_0, hfz9_1, hfz9_2, hfz9_3⟩ := bz4 BK401.out))
  go_ret
  exact ⟨by first | rfl | (simp [errW_none, errW_some] <;> rfl) | (simp [*, errW_none, errW_some] <;> rfl), by repeat (first | (with_reducible first | exact bw HB.out | refine bset ?_ | apply bA | apply bN | apply bD) | exact HB.out)⟩
 rw [if_neg c4] at H
 have c4b0 : (a2 == 1) = false := beq_eq_false_iff_ne.mpr c4
 have c4b1 : (a2 != 1) = true := bne_iff_ne.mpr c4
 by_cases c10 : a2 = 2
 ·rw [if_pos c10] at H
  have c10b0 : (a2 == 2) = true := beq_iff_eq.mpr c10
  have c10b1 : (a2 != 2) = false := bne_eq_false_iff_eq.mpr c10
  clear c10
  obtain rfl := Option.some.inj H
  go_enter Try.func49, Try.ntmps49
  go_wp2_with (first | ((with_reducible refine gate_dst (N := 3) rfl ?_); refine box_event ?hg (N := 3) ?hd (cs := #[.int .i64 a0_0, .int .i64 a0_1, .int .i64 a0_2, .int .i64 a0_3]) (t := 38) ?hr ?_; (case hd => rfl); (case hg => rfl); (case hr => first | (go_simp; done) | (go_simp; rfl)); intro gb400 hg w11 hbox hb; have n0_ := Aside0.mk (below_step (bw HB.out) hb); have n1_ := Aside0.mk (hbox); have n2_ := ge_ hg HB.out; have n3_ := ge_ hg HB.out; replace HB := n0_; have BK400 := n1_; have GW400 := n2_; have GE400 := n3_; clear n0_ n1_ n2_ n3_; clear hb hbox hg) | ((with_reducible refine gate_dst (N := 4) rfl ?_); refine box_event ?hg (N := 4) ?hd (cs := #[.int .i64 a1_0, .int .i64 a1_1, .int .i64 a1_2, .int .i64 a1_3]) (t := 38) ?hr ?_; (case hd => rfl); (case hg => rfl); (case hr => first | (go_simp; done) | (go_simp; rfl)); intro gb401 hg w12 hbox hb; have n0_ := Aside0.mk (blk_below (bs BK400.out) hb); have n1_ := Aside0.mk (below_step (by repeat (first | (with_reducible first | exact bw HB.out | refine bset ?_ | apply bA | apply bN | apply bD) | exact HB.out)) hb); have n2_ := Aside0.mk (hbox); have n3_ := Aside0.mk ((by rw [hg]; exact (below_size (by repeat (first | (with_reducible first | exact bw HB.out | refine bset ?_ | apply bA | apply bN | apply bD) | exact HB.out))) : w.heap.size ≤ gb401)); have n4_ := Aside0.mk ((by rw [hg]; exact (below_size (by repeat (first | (with_reducible first | exact bw HB.out | refine bset ?_ | apply bA | apply bN | apply bD) | exact HB.out))) : w.heap.size ≤ gb401)); have n5_ := ne_ hg BK400.out; have n6_ := en_ hg BK400.out; replace BK400 := n0_; replace HB := n1_; have BK401 := n2_; have GW401 := n3_; have GE401 := n4_; have NB400_401 := n5_; have NB401_400 := n6_; clear n0_ n1_ n2_ n3_ n4_ n5_ n6_; clear hb hbox hg; have hnb13 := NB400_401.out; have hnc13 := NB401_400.out; obtain ⟨hcz14_0, hcz14_1, hcz14_2, hcz14_3, hfz14_0, hfz14_1, hfz14_2, hfz14_3⟩ := bz4 BK400.out; obtain ⟨hcz15_0, hcz15_1, hcz15_2, hcz15_3, hfz15_0, hfz15_1, hfz15_2, hfz15_3⟩ := bz4 BK401.out))
  go_ret
  exact ⟨by first | rfl | (simp [errW_none, errW_some] <;> rfl) | (simp [*, errW_none, errW_some] <;> rfl), by repeat (first | (with_reducible first | exact bw HB.out | refine bset ?_ | apply bA | apply bN | apply bD) | exact HB.out)⟩
 rw [if_neg c10] at H
 have c10b0 : (a2 == 2) = false := beq_eq_false_iff_ne.mpr c10
 have c10b1 : (a2 != 2) = true := bne_iff_ne.mpr c10
 by_cases c16 : a2 = 3
 rotate_left
 ·rw [if_neg c16] at H
  have c16b0 : (a2 == 3) = false := beq_eq_false_iff_ne.mpr c16
  have c16b1 : (a2 != 3) = true := bne_iff_ne.mpr c16
  obtain rfl := Option.some.inj H
  go_enter Try.func49, Try.ntmps49
  go_wp2_with (first | ((with_reducible refine gate_dst (N := 3) rfl ?_); refine box_event ?hg (N := 3) ?hd (cs := #[.int .i64 a0_0, .int .i64 a0_1, .int .i64 a0_2, .int .i64 a0_3]) (t := 38) ?hr ?_; (case hd => rfl); (case hg => rfl); (case hr => first | (go_simp; done) | (go_simp; rfl)); intro gb400 hg w22 hbox hb; have n0_ := Aside0.mk (below_step (bw HB.out) hb); have n1_ := Aside0.mk (hbox); have n2_ := ge_ hg HB.out; have n3_ := ge_ hg HB.out; replace HB := n0_; have BK400 := n1_; have GW400 := n2_; have GE400 := n3_; clear n0_ n1_ n2_ n3_; clear hb hbox hg) | ((with_reducible refine gate_dst (N := 4) rfl ?_); refine box_event ?hg (N := 4) ?hd (cs := #[.int .i64 a1_0, .int .i64 a1_1, .int .i64 a1_2, .int .i64 a1_3]) (t := 38) ?hr ?_; (case hd => rfl); (case hg => rfl); (case hr => first | (go_simp; done) | (go_simp; rfl)); intro gb401 hg w23 hbox hb; have n0_ := Aside0.mk (blk_below (bs BK400.out) hb); have n1_ := Aside0.mk (below_step (by repeat (first | (with_reducible first | exact bw HB.out | refine bset ?_ | apply bA | apply bN | apply bD) | exact HB.out)) hb); have n2_ := Aside0.mk (hbox); have n3_ := Aside0.mk ((by rw [hg]; exact (below_size (by repeat (first | (with_reducible first | exact bw HB.out | refine bset ?_ | apply bA | apply bN | apply bD) | exact HB.out))) : w.heap.size ≤ gb401)); have n4_ := Aside0.mk ((by rw [hg]; exact (below_size (by repeat (first | (with_reducible first | exact bw HB.out | refine bset ?_ | apply bA | apply bN | apply bD) | exact HB.out))) : w.heap.size ≤ gb401)); have n5_ := ne_ hg BK400.out; have n6_ := en_ hg BK400.out; replace BK400 := n0_; replace HB := n1_; have BK401 := n2_; have GW401 := n3_; have GE401 := n4_; have NB400_401 := n5_; have NB401_400 := n6_; clear n0_ n1_ n2_ n3_ n4_ n5_ n6_; clear hb hbox hg; have hnb24 := NB400_401.out; have hnc24 := NB401_400.out; obtain ⟨hcz25_0, hcz25_1, hcz25_2, hcz25_3, hfz25_0, hfz25_1, hfz25_2, hfz25_3⟩ := bz4 BK400.out; obtain ⟨hcz26_0, hcz26_1, hcz26_2, hcz26_3, hfz26_0, hfz26_1, hfz26_2, hfz26_3⟩ := bz4 BK401.out))
  go_ret
  exact ⟨by first | rfl | (simp [errW_none, errW_some] <;> rfl) | (simp [*, errW_none, errW_some] <;> rfl), by repeat (first | (with_reducible first | exact bw HB.out | refine bset ?_ | apply bA | apply bN | apply bD) | exact HB.out)⟩
 rw [if_pos c16] at H
 have c16b0 : (a2 == 3) = true := beq_iff_eq.mpr c16
 have c16b1 : (a2 != 3) = false := bne_eq_false_iff_eq.mpr c16
 clear c16
 obtain rfl := Option.some.inj H
 go_enter Try.func49, Try.ntmps49
 go_wp2_with (first | ((with_reducible refine gate_dst (N := 3) rfl ?_); refine box_event ?hg (N := 3) ?hd (cs := #[.int .i64 a0_0, .int .i64 a0_1, .int .i64 a0_2, .int .i64 a0_3]) (t := 38) ?hr ?_; (case hd => rfl); (case hg => rfl); (case hr => first | (go_simp; done) | (go_simp; rfl)); intro gb400 hg w17 hbox hb; have n0_ := Aside0.mk (below_step (bw HB.out) hb); have n1_ := Aside0.mk (hbox); have n2_ := ge_ hg HB.out; have n3_ := ge_ hg HB.out; replace HB := n0_; have BK400 := n1_; have GW400 := n2_; have GE400 := n3_; clear n0_ n1_ n2_ n3_; clear hb hbox hg) | ((with_reducible refine gate_dst (N := 4) rfl ?_); refine box_event ?hg (N := 4) ?hd (cs := #[.int .i64 a1_0, .int .i64 a1_1, .int .i64 a1_2, .int .i64 a1_3]) (t := 38) ?hr ?_; (case hd => rfl); (case hg => rfl); (case hr => first | (go_simp; done) | (go_simp; rfl)); intro gb401 hg w18 hbox hb; have n0_ := Aside0.mk (blk_below (bs BK400.out) hb); have n1_ := Aside0.mk (below_step (by repeat (first | (with_reducible first | exact bw HB.out | refine bset ?_ | apply bA | apply bN | apply bD) | exact HB.out)) hb); have n2_ := Aside0.mk (hbox); have n3_ := Aside0.mk ((by rw [hg]; exact (below_size (by repeat (first | (with_reducible first | exact bw HB.out | refine bset ?_ | apply bA | apply bN | apply bD) | exact HB.out))) : w.heap.size ≤ gb401)); have n4_ := Aside0.mk ((by rw [hg]; exact (below_size (by repeat (first | (with_reducible first | exact bw HB.out | refine bset ?_ | apply bA | apply bN | apply bD) | exact HB.out))) : w.heap.size ≤ gb401)); have n5_ := ne_ hg BK400.out; have n6_ := en_ hg BK400.out; replace BK400 := n0_; replace HB := n1_; have BK401 := n2_; have GW401 := n3_; have GE401 := n4_; have NB400_401 := n5_; have NB401_400 := n6_; clear n0_ n1_ n2_ n3_ n4_ n5_ n6_; clear hb hbox hg; have hnb19 := NB400_401.out; have hnc19 := NB401_400.out; obtain ⟨hcz20_0, hcz20_1, hcz20_2, hcz20_3, hfz20_0, hfz20_1, hfz20_2, hfz20_3⟩ := bz4 BK400.out; obtain ⟨hcz21_0, hcz21_1, hcz21_2, hcz21_3, hfz21_0, hfz21_1, hfz21_2, hfz21_3⟩ := bz4 BK401.out))
 go_ret
 exact ⟨by first | rfl | (simp [errW_none, errW_some] <;> rfl) | (simp [*, errW_none, errW_some] <;> rfl), by repeat (first | (with_reducible first | exact bw HB.out | refine bset ?_ | apply bA | apply bN | apply bD) | exact HB.out)⟩

/-! ### impl_ruledOrder_1: function 48 -/
def impl_ruledOrder_1.f (a b : Int) : Option Bool := none   -- (it has captured variables: not in the printed shape)
def impl_ruledOrder_1.d (x y : S38) (obj : Int) : Option Int := impl_difference.f x.f0 x.f1 x.f2 x.f3 y.f0 y.f1 y.f2 y.f3 obj
def impl_ruledOrder_1.p (l0 : List S38) (obj : Int) (a b : Int) : Option Bool := if 0 ≤ a ∧ a < l0.length ∧ 0 ≤ b ∧ b < l0.length then (impl_ruledOrder_1.d (rd_T38 l0 a) (rd_T38 l0 b) obj).map (fun d => decide (d < 0)) else none
set_option maxHeartbeats 1600000 in
set_option maxRecDepth 100000 in
theorem impl_ruledOrder_1.ahead (A0 : Option Addr) (c0 : Nat) (l0 : List S38) (obj : Int) (w W0 : World) (b1 b2 : Nat)
  (hr0 : Kd.C k38 w A0 l0.length l0) (hW0 : Below w.heap.size w W0) (h1 : W0.cell? ⟨b1, 0, none⟩ = some (.slice A0 l0.length c0)) (h2 : W0.cell? ⟨b2, 0, none⟩ = some (.int .i64 obj)) (hb1 : b1 < W0.heap.size) (hb2 : b2 < W0.heap.size) :
  impl_sortedBy.AheadAt 48 #[.pointer (some ⟨b1, 0, none⟩), .pointer (some ⟨b2, 0, none⟩)] (impl_ruledOrder_1.p l0 obj) W0 := by
 intro W a b r hB hpr
 unfold impl_ruledOrder_1.p at hpr
 split at hpr
 case isFalse => cases hpr
 case isTrue hin =>
 obtain ⟨p1, q1, p2, q2⟩ := hin
 obtain ⟨d, hd, rfl⟩ := Option.map_eq_some_iff.mp hpr
 clear hpr
 have HD := Aside0.mk (fun W' => impl_difference.calls _ _ _ _ _ _ _ _ _ _ W' hd)
 have hr := Kd.C_below (Kd.C_below hr0 hW0) hB
 have e1 : W.cell? ⟨b1, 0, none⟩ = some (.slice A0 l0.length c0) := by rw [hB.cell hb1]; exact h1
 have e2 : W.cell? ⟨b2, 0, none⟩ = some (.int .i64 obj) := by rw [hB.cell hb2]; exact h2
 obtain ⟨ad, ea, hx0, hx1, hx2, hx3⟩ := at_T38 hr a p1 q1
 obtain ⟨ad', ea', hy0, hy1, hy2, hy3⟩ := at_T38 hr b p2 q2
 cases ea
 cases ea'
 replace p1 := eq_true p1
 replace q1 := eq_true q1
 replace p2 := eq_true p2
 replace q2 := eq_true q2
 clear hr hr0 hW0 h1 h2 hb1 hb2 hd hB
 show Calls Try.prog 48 #[.int .i64 a, .int .i64 b, .pointer (some ⟨b1, 0, none⟩), .pointer (some ⟨b2, 0, none⟩)] W _
 go_enter Try.func48, Try.ntmps48
 go_wp2
 go_still_tail 9, (show Try.prog.follows .mixedOrders = true from by rfl)
 go_wp2_with ((with_reducible refine (HD.out _).mono ?_); rintro e w' ⟨rfl, hbc⟩)
 go_ret
 exact ⟨rfl, below_step (below_drew (Below.refl W.heap.size W)) hbc⟩

/-! ### impl_ruledOrder: function 33 -/
def impl_ruledOrder.f (k : Nat) (l0 : List (S38)) (a1 : Int) : Option (List (Int)) := (impl_numbersTo.f k (l0.length : Int)).bind fun q => if q.length ≤ 1000000 then impl_sortedBy.sortO (impl_ruledOrder_1.p l0 a1) q [] else none
theorem impl_ruledOrder.mono : ∀ l0 a1 k, LeO (impl_ruledOrder.f k l0 a1) (impl_ruledOrder.f (k + 1) l0 a1) := fun l0 a1 k => LeO.bind (impl_numbersTo.mono _ k) (fun _ => LeO.refl _)
set_option maxRecDepth 100000 in
theorem impl_ruledOrder.heg (args : Array Value) (w : World) : (callFunc 48 args).run Try.prog w = .ok (.enter 48 args) w := by
 first | (unfold callFunc; go_simp; done) | (unfold callFunc; go_simp; rfl) | rfl
set_option maxHeartbeats 1600000 in
set_option maxRecDepth 100000 in
theorem impl_ruledOrder.calls (k : Nat) (A0 : Option Addr) (c0 : Nat) (l0 : List (S38)) (a1 : Int) (r : List (Int)) (w : World) (hr0 : Kd.C k38 w A0 l0.length l0) (hc0 : l0.length ≤ c0) (h : impl_ruledOrder.f k l0 a1 = some r) :
  Calls Try.prog 33 #[.slice A0 l0.length c0, .int .i64 a1] w fun e w' => ∃ v0_ : Value, e = .returned (v0_) ∧ Kd.R (Kd.int .i64) 3 w' w.heap.size (fun _ => True) v0_ r ∧ Below w.heap.size w w' := by
 obtain ⟨nums, hn, hs⟩ := Option.bind_eq_some_iff.mp h
 split at hs
 case isFalse => cases hs
 case isTrue hn6 =>
 have HNUM := Aside0.mk (fun W => impl_numbersTo.calls k _ nums W hn)
 have HCLO := Aside0.mk (fun (W : World) (b1 b2 : Nat) (hW : Below w.heap.size w W) h1 h2 hb1 hb2 => impl_ruledOrder_1.ahead A0 c0 l0 a1 w W b1 b2 hr0 hW h1 h2 hb1 hb2)
 have HN6 := Aside0.mk hn6
 have H := Aside0.mk hs
 clear hn6 hn hs h hr0 hc0
 go_enter Try.func33, Try.ntmps33
 go_wp2_with ((with_reducible refine (HNUM.out _).mono ?_); rintro e w' ⟨v1, rfl, hR1, hB1⟩; have HR1 := Aside0.mk hR1; have HB1 := Aside0.mk hB1; clear hR1 hB1; obtain ⟨A1, c1, e1⟩ := Kd.R_slice HR1.out; subst e1)
 have hs1 : ((w.alloc (.cells #[.slice A0 l0.length c0] 24)).alloc (.cells #[.int .i64 a1] 3)).heap.size = w.heap.size + 1 + 1 := by
  show ((w.heap.push _).push _).size = _
  rw [Array.size_push, Array.size_push]
 have HBw := Aside0.mk (below_step (below_alloc (below_alloc (Below.refl w.heap.size w) (.cells #[.slice A0 l0.length c0] 24)) (.cells #[.int .i64 a1] 3)) HB1.out)
 have hz1 := below_size HB1.out
 rw [hs1] at hz1
 have hc1 : w'.cell? ⟨w.heap.size, 0, none⟩ = some (.slice A0 l0.length c0) := by
  rw [HB1.out.cell (by rw [hs1]; show w.heap.size < _; omega)]
  go_simp
 have hc2 : w'.cell? ⟨w.heap.size + 1, 0, none⟩ = some (.int .i64 a1) := by
  rw [HB1.out.cell (by rw [hs1]; show w.heap.size + 1 < _; omega)]
  go_simp
 have hp := HCLO.out w' w.heap.size (w.heap.size + 1) HBw.out hc1 hc2 (by omega) (by omega)
 refine (impl_sortedBy.calls 48 _ (impl_ruledOrder_1.p l0 a1) A1 c1 nums r w' (Kd.R_reads' HR1.out).2.2 (Kd.R_reads' HR1.out).2.1 HN6.out impl_ruledOrder.heg hp H.out).mono ?_
 rintro e w2 ⟨v2, rfl, hR2, hB2⟩
 have HR2 := Aside0.mk (Kd.R_lower hR2 (below_size HBw.out))
 have HB2 := Aside0.mk (below_step HBw.out hB2)
 clear hR2 hB2 hp hc1 hc2 hz1 hs1
 go_wp2
 go_ret
 exact ⟨_, rfl, HR2.out, HB2.out⟩

/-! ### impl_RuledOrder: function 14 -/
def impl_RuledOrder.f (k : Nat) (l0 : List (S38)) (a1 : Int) : Option (List Int × Bool) := (impl_isRuled.f k l0 a1).bind fun t402 => (if t402 = true then ((impl_ruledOrder.f k l0 a1).bind fun t403 => (some (t403, true))) else (some (([] : List Int), false)))
theorem impl_RuledOrder.mono : ∀ a0 a1 k, LeO (impl_RuledOrder.f k a0 a1) (impl_RuledOrder.f (k + 1) a0 a1) := by
 intro a0 a1 k
 unfold impl_RuledOrder.f
 repeat' first
   | (with_reducible exact impl_isRuled.mono _ _ _)
   | (with_reducible exact impl_ruledOrder.mono _ _ _)
   | (with_reducible exact LeO.refl _)
   | (with_reducible exact LeO.none _)
   | (with_reducible refine LeO.ite ?_ ?_)
   | (with_reducible refine LeO.bind ?_ (fun _ => ?_))
   | exact impl_isRuled.mono _ _ _
   | exact impl_ruledOrder.mono _ _ _
   | exact LeO.none _
   | refine LeO.ite ?_ ?_
   | refine LeO.bind ?_ (fun _ => ?_)
set_option maxHeartbeats 8000000 in
set_option maxRecDepth 100000 in
theorem impl_RuledOrder.calls (k : Nat) (A0 : Option Addr) (c0 : Nat) (l0 : List (S38)) (a1 : Int) (r1 : List Int) (r2 : Bool) (w : World) (hr0 : Kd.C k38 w A0 l0.length l0) (hc0 : l0.length ≤ c0) (h : impl_RuledOrder.f k l0 a1 = some (r1, r2)) :
  Calls Try.prog 14 #[.slice A0 l0.length c0, .int .i64 a1] w fun e w' => ∃ v0_ : Value, e = .returned (.tuple #[v0_, .bool r2]) ∧ Kd.R (Kd.int .i64) 3 w' w.heap.size (fun _ => True) v0_ r1 ∧ Below w.heap.size w w' := by
 have HR0 := Aside0.mk hr0
 have HC0 := Aside0.mk hc0
 clear hr0 hc0
 have HB := Aside0.mk (Below.refl w.heap.size w)
 have H : ((impl_isRuled.f k l0 a1).bind fun t402 => (if t402 = true then ((impl_ruledOrder.f k l0 a1).bind fun t403 => (some (t403, true))) else (some (([] : List Int), false)))) = some (r1, r2) := h
 clear h
 replace H := Option.bind_eq_some_iff.mp H
 obtain ⟨t402, A30, H⟩ := H
 replace H : (if t402 = true then ((impl_ruledOrder.f k l0 a1).bind fun t403 => (some (t403, true))) else (some (([] : List Int), false))) = some (r1, r2) := H
 have A3 := Aside0.mk A30
 clear A30
 by_cases c4 : t402 = true
 rotate_left
 ·replace c4 := Bool.eq_false_iff.mpr c4
  subst c4
  have H1 : (some (([] : List Int), false)) = some (r1, r2) := by rw [if_neg (show ¬ (false = true) by decide)] at H; exact H
  clear H
  have H := H1
  clear H1
  simp only [Option.some.injEq, Prod.mk.injEq] at H
  obtain ⟨rfl, rfl⟩ := H
  go_enter Try.func14, Try.ntmps14
  go_wp2_with (first | ((with_reducible refine gate_callee (f := 32) rfl ?_); refine goesL_ (some 8) rfl rfl Try.func32 (by kernel_rfl) rfl #[.slice A0 l0.length c0, .int .i64 a1] rfl (by (try simp only [mA_]); first | done | rfl | (simp only [List.length_drop, List.length_take]; rfl)) ?_; (with_reducible refine (impl_isRuled.calls k _ _ l0 a1 false _ ?side1 ?side2 A3.out).mono ?_); (case side1 => repeat (first | exact HR0.out | (with_reducible refine Kd.C_alloc ?_ _) | (with_reducible refine Kd.C_drewN ?_ _) | (with_reducible refine Kd.C_drew ?_))); (case side2 => exact HC0.out); rintro e w8 ⟨rfl, hb⟩; refine ⟨_, rfl, ?_⟩; have n0_ := Aside0.mk (below_step (bw HB.out) hb); replace HB := n0_; clear n0_; (try clear hb); (try clear hb2); (try clear hk); (try clear hi)))
  go_ret2
  exact ⟨_, by first | rfl | (simp [errW_none, errW_some] <;> rfl) | (simp [*, errW_none, errW_some] <;> rfl), by first | exact Kd.R_nil _ _ _ _ _ | exact Kd.N_nil _ _ _ _ _ | exact Kd.V_nil _ _ _ _ _ | exact Kd.Q_nil _ _ _ _ _ | exact Kd.S_nil _ _ _ _ _, bw HB.out⟩
 subst c4
 have H1 : ((impl_ruledOrder.f k l0 a1).bind fun t403 => (some (t403, true))) = some (r1, r2) := by rw [if_pos rfl] at H; exact H
 clear H
 have H := H1
 clear H1
 replace H := Option.bind_eq_some_iff.mp H
 obtain ⟨t403, A50, H⟩ := H
 replace H : (some (t403, true)) = some (r1, r2) := H
 have A5 := Aside0.mk A50
 clear A50
 simp only [Option.some.injEq, Prod.mk.injEq] at H
 obtain ⟨rfl, rfl⟩ := H
 go_enter Try.func14, Try.ntmps14
 go_wp2_with (first | ((with_reducible refine gate_callee (f := 32) rfl ?_); refine goesL_ (some 8) rfl rfl Try.func32 (by kernel_rfl) rfl #[.slice A0 l0.length c0, .int .i64 a1] rfl (by (try simp only [mA_]); first | done | rfl | (simp only [List.length_drop, List.length_take]; rfl)) ?_; (with_reducible refine (impl_isRuled.calls k _ _ l0 a1 true _ ?side1 ?side2 A3.out).mono ?_); (case side1 => repeat (first | exact HR0.out | (with_reducible refine Kd.C_alloc ?_ _) | (with_reducible refine Kd.C_drewN ?_ _) | (with_reducible refine Kd.C_drew ?_))); (case side2 => exact HC0.out); rintro e w6 ⟨rfl, hb⟩; refine ⟨_, rfl, ?_⟩; have n0_ := Aside0.mk (below_step (bw HB.out) hb); replace HB := n0_; clear n0_; (try clear hb); (try clear hb2); (try clear hk); (try clear hi)) | ((with_reducible refine gate_callee (f := 33) rfl ?_); refine goesL_ (some 12) rfl rfl Try.func33 (by kernel_rfl) rfl #[.slice A0 l0.length c0, .int .i64 a1] rfl (by (try simp only [mA_]); first | done | rfl | (simp only [List.length_drop, List.length_take]; rfl)) ?_; (with_reducible refine (impl_ruledOrder.calls k _ _ l0 a1 t403 _ ?side1 ?side2 A5.out).mono ?_); (case side1 => first | exact bC HR0.out HB.out | exact Kd.C_below HR0.out HB.out); (case side2 => exact HC0.out); rintro e w7 ⟨v404, rfl, ho0, hb⟩; refine ⟨_, rfl, ?_⟩; have n0_ := Aside0.mk (Kd.R_lower ho0 (below_size (bw HB.out))); have n1_ := Aside0.mk (below_step (bw HB.out) hb); have HO405 := n0_; replace HB := n1_; clear n0_ n1_; (try clear hb); (try clear hb2); (try clear hk); (try clear hi); (try clear ho0)))
 go_ret2
 exact ⟨_, by first | rfl | (simp [errW_none, errW_some] <;> rfl) | (simp [*, errW_none, errW_some] <;> rfl), by (with_reducible repeat (first | apply Kd.R_alloc | apply Kd.R_drewN | apply Kd.R_drew)); exact HO405.out, bw HB.out⟩

/-! ### impl_isScheduled: function 34 -/
def impl_isScheduled.f (k : Nat) (l0 : List (S38)) (l1 : List Int) : Option (Bool) := (impl_IsJobs.f k l0).bind fun t406 => (if t406 = true then ((impl_isOrder.f k (l0.length : Int) l1).bind fun t407 => (some t407)) else (some false))
theorem impl_isScheduled.mono : ∀ a0 a1 k, LeO (impl_isScheduled.f k a0 a1) (impl_isScheduled.f (k + 1) a0 a1) := by
 intro a0 a1 k
 unfold impl_isScheduled.f
 repeat' first
   | (with_reducible exact impl_IsJobs.mono _ _)
   | (with_reducible exact impl_isOrder.mono _ _ _)
   | (with_reducible exact LeO.refl _)
   | (with_reducible exact LeO.none _)
   | (with_reducible refine LeO.ite ?_ ?_)
   | (with_reducible refine LeO.bind ?_ (fun _ => ?_))
   | exact impl_IsJobs.mono _ _
   | exact impl_isOrder.mono _ _ _
   | exact LeO.none _
   | refine LeO.ite ?_ ?_
   | refine LeO.bind ?_ (fun _ => ?_)
set_option maxHeartbeats 8000000 in
set_option maxRecDepth 100000 in
theorem impl_isScheduled.calls (k : Nat) (A0 : Option Addr) (c0 : Nat) (l0 : List (S38)) (A1 : Option Addr) (c1 : Nat) (l1 : List Int) (r : Bool) (w : World) (hr0 : Kd.C k38 w A0 l0.length l0) (hc0 : l0.length ≤ c0) (hr1 : Kd.C (Kd.int .i64) w A1 l1.length l1) (hc1 : l1.length ≤ c1) (h : impl_isScheduled.f k l0 l1 = some r) :
  Calls Try.prog 34 #[.slice A0 l0.length c0, .slice A1 l1.length c1] w fun e w' => e = .returned (.bool r) ∧ Below w.heap.size w w' := by
 have HR0 := Aside0.mk hr0
 have HC0 := Aside0.mk hc0
 clear hr0 hc0
 have HR1 := Aside0.mk hr1
 have HC1 := Aside0.mk hc1
 clear hr1 hc1
 have HB := Aside0.mk (Below.refl w.heap.size w)
 have H : ((impl_IsJobs.f k l0).bind fun t406 => (if t406 = true then ((impl_isOrder.f k (l0.length : Int) l1).bind fun t407 => (some t407)) else (some false))) = some r := h
 clear h
 replace H := Option.bind_eq_some_iff.mp H
 obtain ⟨t406, A30, H⟩ := H
 replace H : (if t406 = true then ((impl_isOrder.f k (l0.length : Int) l1).bind fun t407 => (some t407)) else (some false)) = some r := H
 have A3 := Aside0.mk A30
 clear A30
 by_cases c4 : t406 = true
 rotate_left
 ·replace c4 := Bool.eq_false_iff.mpr c4
  subst c4
  have H1 : (some false) = some r := by rw [if_neg (show ¬ (false = true) by decide)] at H; exact H
  clear H
  have H := H1
  clear H1
  obtain rfl := Option.some.inj H
  go_enter Try.func34, Try.ntmps34
  go_wp2_with (first | ((with_reducible refine gate_callee (f := 29) rfl ?_); refine goesL_ (some 6) rfl rfl Try.func29 (by kernel_rfl) rfl #[.slice A0 l0.length c0] rfl (by (try simp only [mA_]); first | done | rfl | (simp only [List.length_drop, List.length_take]; rfl)) ?_; (with_reducible refine (impl_IsJobs.calls k _ _ l0 false _ ?side1 ?side2 A3.out).mono ?_); (case side1 => repeat (first | exact HR0.out | (with_reducible refine Kd.C_alloc ?_ _) | (with_reducible refine Kd.C_drewN ?_ _) | (with_reducible refine Kd.C_drew ?_))); (case side2 => exact HC0.out); rintro e w7 ⟨rfl, hb⟩; refine ⟨_, rfl, ?_⟩; have n0_ := Aside0.mk (below_step (bw HB.out) hb); replace HB := n0_; clear n0_; (try clear hb); (try clear hb2); (try clear hk); (try clear hi)))
  go_ret
  exact ⟨by first | rfl | (simp [errW_none, errW_some] <;> rfl) | (simp [*, errW_none, errW_some] <;> rfl), bw HB.out⟩
 subst c4
 have H1 : ((impl_isOrder.f k (l0.length : Int) l1).bind fun t407 => (some t407)) = some r := by rw [if_pos rfl] at H; exact H
 clear H
 have H := H1
 clear H1
 replace H := Option.bind_eq_some_iff.mp H
 obtain ⟨t407, A50, H⟩ := H
 replace H : (some t407) = some r := H
 have A5 := Aside0.mk A50
 clear A50
 obtain rfl := Option.some.inj H
 go_enter Try.func34, Try.ntmps34
 go_wp2_with (first | ((with_reducible refine gate_callee (f := 29) rfl ?_); refine goesL_ (some 6) rfl rfl Try.func29 (by kernel_rfl) rfl #[.slice A0 l0.length c0] rfl (by (try simp only [mA_]); first | done | rfl | (simp only [List.length_drop, List.length_take]; rfl)) ?_; (with_reducible refine (impl_IsJobs.calls k _ _ l0 true _ ?side1 ?side2 A3.out).mono ?_); (case side1 => repeat (first | exact HR0.out | (with_reducible refine Kd.C_alloc ?_ _) | (with_reducible refine Kd.C_drewN ?_ _) | (with_reducible refine Kd.C_drew ?_))); (case side2 => exact HC0.out); rintro e w6 ⟨rfl, hb⟩; refine ⟨_, rfl, ?_⟩; have n0_ := Aside0.mk (below_step (bw HB.out) hb); replace HB := n0_; clear n0_; (try clear hb); (try clear hb2); (try clear hk); (try clear hi)) | (go_at_call 20; (with_reducible refine (impl_isOrder.calls k (l0.length : Int) _ _ l1 t407 _ ?side1 ?side2 A5.out).mono ?_); (case side1 => first | exact bC HR1.out HB.out | exact Kd.C_below HR1.out HB.out); (case side2 => exact HC1.out); rintro e w' ⟨rfl, ⟨nd, rfl⟩⟩))
 go_ret
 exact ⟨by first | rfl | (simp [errW_none, errW_some] <;> rfl) | (simp [*, errW_none, errW_some] <;> rfl), bw HB.out⟩

/-! ### impl_EndsOf: function 15 -/
def impl_EndsOf.f (k : Nat) (l0 : List (S38)) (l1 : List Int) : Option (List Int × Bool) := (impl_isScheduled.f k l0 l1).bind fun t408 => (if t408 = true then ((impl_endsOf.f k l0 l1).bind fun t409 => (some (t409, true))) else (some (([] : List Int), false)))
theorem impl_EndsOf.mono : ∀ a0 a1 k, LeO (impl_EndsOf.f k a0 a1) (impl_EndsOf.f (k + 1) a0 a1) := by
 intro a0 a1 k
 unfold impl_EndsOf.f
 repeat' first
   | (with_reducible exact impl_endsOf.mono _ _ _)
   | (with_reducible exact impl_isScheduled.mono _ _ _)
   | (with_reducible exact LeO.refl _)
   | (with_reducible exact LeO.none _)
   | (with_reducible refine LeO.ite ?_ ?_)
   | (with_reducible refine LeO.bind ?_ (fun _ => ?_))
   | exact impl_endsOf.mono _ _ _
   | exact impl_isScheduled.mono _ _ _
   | exact LeO.none _
   | refine LeO.ite ?_ ?_
   | refine LeO.bind ?_ (fun _ => ?_)
set_option maxHeartbeats 8000000 in
set_option maxRecDepth 100000 in
theorem impl_EndsOf.calls (k : Nat) (A0 : Option Addr) (c0 : Nat) (l0 : List (S38)) (A1 : Option Addr) (c1 : Nat) (l1 : List Int) (r1 : List Int) (r2 : Bool) (w : World) (hr0 : Kd.C k38 w A0 l0.length l0) (hc0 : l0.length ≤ c0) (hr1 : Kd.C (Kd.int .i64) w A1 l1.length l1) (hc1 : l1.length ≤ c1) (h : impl_EndsOf.f k l0 l1 = some (r1, r2)) :
  Calls Try.prog 15 #[.slice A0 l0.length c0, .slice A1 l1.length c1] w fun e w' => ∃ v0_ : Value, e = .returned (.tuple #[v0_, .bool r2]) ∧ Kd.R (Kd.int .i64) 3 w' w.heap.size (fun _ => True) v0_ r1 ∧ Below w.heap.size w w' := by
 have HR0 := Aside0.mk hr0
 have HC0 := Aside0.mk hc0
 clear hr0 hc0
 have HR1 := Aside0.mk hr1
 have HC1 := Aside0.mk hc1
 clear hr1 hc1
 have HB := Aside0.mk (Below.refl w.heap.size w)
 have H : ((impl_isScheduled.f k l0 l1).bind fun t408 => (if t408 = true then ((impl_endsOf.f k l0 l1).bind fun t409 => (some (t409, true))) else (some (([] : List Int), false)))) = some (r1, r2) := h
 clear h
 replace H := Option.bind_eq_some_iff.mp H
 obtain ⟨t408, A30, H⟩ := H
 replace H : (if t408 = true then ((impl_endsOf.f k l0 l1).bind fun t409 => (some (t409, true))) else (some (([] : List Int), false))) = some (r1, r2) := H
 have A3 := Aside0.mk A30
 clear A30
 by_cases c4 : t408 = true
 rotate_left
 ·replace c4 := Bool.eq_false_iff.mpr c4
  subst c4
  have H1 : (some (([] : List Int), false)) = some (r1, r2) := by rw [if_neg (show ¬ (false = true) by decide)] at H; exact H
  clear H
  have H := H1
  clear H1
  simp only [Option.some.injEq, Prod.mk.injEq] at H
  obtain ⟨rfl, rfl⟩ := H
  go_enter Try.func15, Try.ntmps15
  go_wp2_with (first | ((with_reducible refine gate_callee (f := 34) rfl ?_); refine goesL_ (some 8) rfl rfl Try.func34 (by kernel_rfl) rfl #[.slice A0 l0.length c0, .slice A1 l1.length c1] rfl (by (try simp only [mA_]); first | done | rfl | (simp only [List.length_drop, List.length_take]; rfl)) ?_; (with_reducible refine (impl_isScheduled.calls k _ _ l0 _ _ l1 false _ ?side1 ?side2 ?side3 ?side4 A3.out).mono ?_); (case side1 => repeat (first | exact HR0.out | (with_reducible refine Kd.C_alloc ?_ _) | (with_reducible refine Kd.C_drewN ?_ _) | (with_reducible refine Kd.C_drew ?_))); (case side2 => exact HC0.out); (case side3 => repeat (first | exact HR1.out | (with_reducible refine Kd.C_alloc ?_ _) | (with_reducible refine Kd.C_drewN ?_ _) | (with_reducible refine Kd.C_drew ?_))); (case side4 => exact HC1.out); rintro e w8 ⟨rfl, hb⟩; refine ⟨_, rfl, ?_⟩; have n0_ := Aside0.mk (below_step (bw HB.out) hb); replace HB := n0_; clear n0_; (try clear hb); (try clear hb2); (try clear hk); (try clear hi)))
  go_ret2
  exact ⟨_, by first | rfl | (simp [errW_none, errW_some] <;> rfl) | (simp [*, errW_none, errW_some] <;> rfl), by first | exact Kd.R_nil _ _ _ _ _ | exact Kd.N_nil _ _ _ _ _ | exact Kd.V_nil _ _ _ _ _ | exact Kd.Q_nil _ _ _ _ _ | exact Kd.S_nil _ _ _ _ _, bw HB.out⟩
 subst c4
 have H1 : ((impl_endsOf.f k l0 l1).bind fun t409 => (some (t409, true))) = some (r1, r2) := by rw [if_pos rfl] at H; exact H
 clear H
 have H := H1
 clear H1
 replace H := Option.bind_eq_some_iff.mp H
 obtain ⟨t409, A50, H⟩ := H
 replace H : (some (t409, true)) = some (r1, r2) := H
 have A5 := Aside0.mk A50
 clear A50
 simp only [Option.some.injEq, Prod.mk.injEq] at H
 obtain ⟨rfl, rfl⟩ := H
 go_enter Try.func15, Try.ntmps15
 go_wp2_with (first | ((with_reducible refine gate_callee (f := 34) rfl ?_); refine goesL_ (some 8) rfl rfl Try.func34 (by kernel_rfl) rfl #[.slice A0 l0.length c0, .slice A1 l1.length c1] rfl (by (try simp only [mA_]); first | done | rfl | (simp only [List.length_drop, List.length_take]; rfl)) ?_; (with_reducible refine (impl_isScheduled.calls k _ _ l0 _ _ l1 true _ ?side1 ?side2 ?side3 ?side4 A3.out).mono ?_); (case side1 => repeat (first | exact HR0.out | (with_reducible refine Kd.C_alloc ?_ _) | (with_reducible refine Kd.C_drewN ?_ _) | (with_reducible refine Kd.C_drew ?_))); (case side2 => exact HC0.out); (case side3 => repeat (first | exact HR1.out | (with_reducible refine Kd.C_alloc ?_ _) | (with_reducible refine Kd.C_drewN ?_ _) | (with_reducible refine Kd.C_drew ?_))); (case side4 => exact HC1.out); rintro e w6 ⟨rfl, hb⟩; refine ⟨_, rfl, ?_⟩; have n0_ := Aside0.mk (below_step (bw HB.out) hb); replace HB := n0_; clear n0_; (try clear hb); (try clear hb2); (try clear hk); (try clear hi)) | ((with_reducible refine gate_callee (f := 22) rfl ?_); refine goesL_ (some 12) rfl rfl Try.func22 (by kernel_rfl) rfl #[.slice A0 l0.length c0, .slice A1 l1.length c1] rfl (by (try simp only [mA_]); first | done | rfl | (simp only [List.length_drop, List.length_take]; rfl)) ?_; (with_reducible refine (impl_endsOf.calls k _ _ l0 _ _ l1 t409 _ ?side1 ?side2 ?side3 ?side4 A5.out).mono ?_); (case side1 => first | exact bC HR0.out HB.out | exact Kd.C_below HR0.out HB.out); (case side2 => exact HC0.out); (case side3 => first | exact bC HR1.out HB.out | exact Kd.C_below HR1.out HB.out); (case side4 => exact HC1.out); rintro e w7 ⟨v410, rfl, ho0, hb⟩; refine ⟨_, rfl, ?_⟩; have n0_ := Aside0.mk (Kd.R_lower ho0 (below_size (bw HB.out))); have n1_ := Aside0.mk (below_step (bw HB.out) hb); have HO411 := n0_; replace HB := n1_; clear n0_ n1_; (try clear hb); (try clear hb2); (try clear hk); (try clear hi); (try clear ho0)))
 go_ret2
 exact ⟨_, by first | rfl | (simp [errW_none, errW_some] <;> rfl) | (simp [*, errW_none, errW_some] <;> rfl), by (with_reducible repeat (first | apply Kd.R_alloc | apply Kd.R_drewN | apply Kd.R_drew)); exact HO411.out, bw HB.out⟩

end Go.Proofs.Ytnghgpceaahkaaa.X
