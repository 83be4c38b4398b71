-- Written by a program of this session (wip/gen/xp.py, over the kit's printer). Not trusted: Lean checks it.
import Derived.Test.YtnelkodgjfjpdaaX0
import Derived.Test.YtnelkodgjfjpdaaXf197
import Derived.Test.YtnelkodgjfjpdaaXf199
import Derived.Test.YtnelkodgjfjpdaaXf93
namespace Go.Proofs.Ytnelkodgjfjpdaa.X
open Go.RowKit Go.Proofs.YtnelkodgjfjpdaaW.PrintWords Go.Proofs.YtnelkodgjfjpdaaW.PrintLast Go.Proofs.YtnelkodgjfjpdaaW.PrintMore
attribute [local go_sem] max2_int min2_int max_two min_two max_three min_three max_four min_four   -- for this text's walks alone
set_option linter.unusedVariables false
set_option linter.unusedSimpArgs false

/-! ### spec_l5Rests: function 196 -/
def spec_l5Rests.l0 : Nat → List (S129) → List Int → Int → Option (List Int)
 | 0, _, _, _ => none
 | k + 1, x0, x3, x4 => if x4 < (x0.length : Int) then (if 0 ≤ x4 then (if x3.length < 17592186044416 then (spec_l5Rests.l0 k x0 (x3 ++ [(rd_T129 x0 x4).f0]) (wrap64 (x4 + 1))) else (none)) else (none)) else (some x3)
def spec_l5Rests.f (k : Nat) (l0 : List (S129)) : Option (List Int) := spec_l5Rests.l0 k l0 (([] : List Int)) 0
theorem spec_l5Rests.mono_l : ∀ k, (∀ y0 y1 y2, LeO (spec_l5Rests.l0 k y0 y1 y2) (spec_l5Rests.l0 (k + 1) y0 y1 y2))
 | 0 => fun _ _ _ r h => by simp [spec_l5Rests.l0] at h
 | k + 1 => by
  have ih0 := spec_l5Rests.mono_l k
  ·intro y0 y1 y2
   unfold spec_l5Rests.l0
   repeat' first
   | (with_reducible exact ih0 _ _ _)
   | (with_reducible exact LeO.refl _)
   | (with_reducible exact LeO.none _)
   | (with_reducible refine LeO.ite ?_ ?_)
   | (with_reducible refine LeO.bind ?_ (fun _ => ?_))
   | exact ih0 _ _ _
   | exact LeO.none _
   | refine LeO.ite ?_ ?_
   | refine LeO.bind ?_ (fun _ => ?_)
theorem spec_l5Rests.mono : ∀ a0 k, LeO (spec_l5Rests.f k a0) (spec_l5Rests.f (k + 1) a0) := by
 intro a0 k
 have ih0 := spec_l5Rests.mono_l k
 unfold spec_l5Rests.f
 repeat' first
   | (with_reducible exact ih0 _ _ _)
   | (with_reducible exact LeO.refl _)
   | (with_reducible exact LeO.none _)
   | (with_reducible refine LeO.ite ?_ ?_)
   | (with_reducible refine LeO.bind ?_ (fun _ => ?_))
   | exact ih0 _ _ _
   | exact LeO.none _
   | refine LeO.ite ?_ ?_
   | refine LeO.bind ?_ (fun _ => ?_)
set_option maxHeartbeats 8000000 in
set_option maxRecDepth 100000 in
theorem spec_l5Rests.calls (k : Nat) (A0 : Option Addr) (c0 : Nat) (l0 : List (S129)) (r : List Int) (w : World) (hr0 : Kd.C k129 w A0 l0.length l0) (hc0 : l0.length ≤ c0) (h : spec_l5Rests.f k l0 = some r) :
  Calls Try.prog 196 #[.slice A0 l0.length c0] w fun e w' => ∃ v0_ : Value, e = .returned (v0_) ∧ Kd.R (Kd.int .i64) 3 w' w.heap.size (fun _ => True) v0_ r ∧ Below w.heap.size w w' := by
 have HR0 := Aside0.mk hr0
 have HC0 := Aside0.mk hc0
 clear hr0 hc0
 have HB := Aside0.mk (Below.refl w.heap.size w)
 have H : (spec_l5Rests.l0 k l0 (([] : List Int)) 0) = some r := h
 clear h
 obtain ⟨y331, hy331⟩ : ∃ y_ : List Int, y_ = (([] : List Int)) := ⟨_, rfl⟩
 replace H : (spec_l5Rests.l0 k l0 y331 0) = some r := by first | (rw [hy331]; with_reducible exact H) | (have H2_ := (Option.bind_some _ _).symm.trans H; rw [hy331]; with_reducible exact H2_) | (have H2_ := (Option.bind_some _ _).symm.trans H; with_reducible exact H2_) | with_reducible exact H | (rw [hy331]; exact H) | exact H
 have Ny331 := Aside0.mk hy331
 clear hy331
 have H' := Aside0.mk H
 clear H
 go_enter Try.func196, Try.ntmps196
 go_wp2_with (first | ((with_reducible refine gate_dst (N := 5) rfl ?_); refine Kd.R_lit (Kd.int .i64) _ 3 ?hg (N := 5) ?hd (xs := ([] : List Int)) (inner := []) (ok := fun _ => True) (okp := fun _ => True) ?hr ?hp (fun _ hk => hk) trivial (Below.refl _ _) (Nat.le_refl _) (by simp) ?_; (case hd => rfl); (case hg => rfl); (case hr => first | (go_simp; done) | (go_simp; rfl)); (case hp => exact (Reps.none _ _)); intro v332 w2 ho3 hb hg_ hnew_; clear hg_ hnew_; (first | rw [← Ny331.out] at ho3 | (simp only [Int.reduceToNat] at ho3; rw [← Ny331.out] at ho3)); have n0_ := Aside0.mk (Kd.R_lower ho3 (below_size (by repeat (first | (with_reducible first | exact HB.out | apply below_alloc | apply pw_below_drewN | apply below_drew1) | exact HB.out)))); have n1_ := Aside0.mk (below_step (by repeat (first | (with_reducible first | exact HB.out | apply below_alloc | apply pw_below_drewN | apply below_drew1) | exact HB.out)) hb); clear HB; have HO333 := n0_; have HB := n1_; clear n0_ n1_; clear hb ho3))
 go_loopg [3, 4] k (fun kq v3 v4 w' => ∃ (x3_1 : List Int) (x4_1 : Int), v4 = .int .i64 x4_1 ∧ Aside0 (spec_l5Rests.l0 kq l0 x3_1 x4_1 = some r) ∧ Aside0 (kq ≤ k) ∧ Aside0 (Kd.R (Kd.int .i64) 3 w' w.heap.size (fun _ => True) v3 x3_1) ∧ Aside0 (Below w.heap.size w w'))
 case atStart => exact ⟨(y331), (0), (by first | rfl | (simp; done) | (simp [*]; done)), H', ⟨Nat.le_refl _⟩, ⟨by (with_reducible repeat (first | apply Kd.R_alloc | apply Kd.R_drewN | apply Kd.R_drew)); exact HO333.out⟩, ⟨by repeat (first | (with_reducible first | exact HB.out | apply below_alloc | apply pw_below_drewN | apply below_drew1) | exact HB.out)⟩⟩
 case round =>
  clear H'
  try clear c1
  try clear p2
  obtain ⟨x3_1, x4_1, rfl, HA, HK1, HO_3, HB⟩ := hrel
  cases gk with
  | zero => exact absurd HA.out (by simp [spec_l5Rests.l0])
  | succ k1 =>
   have H := HA.out
   clear HA
   simp only [spec_l5Rests.l0] at H
   by_cases c4 : x4_1 < (l0.length : Int)
   ·rw [if_pos c4] at H
    have c4b0 : decide (x4_1 < (l0.length : Int)) = true := decide_eq_true c4
    clear c4
    by_cases c5 : 0 ≤ x4_1
    ·rw [if_pos c5] at H
     have c5b0 : decide (0 ≤ x4_1) = true := decide_eq_true c5
     clear c5
     by_cases c6 : x3_1.length < 17592186044416
     ·rw [if_pos c6] at H
      have LMc6 := Aside0.mk c6
      clear c6
      obtain ⟨y335, hy335⟩ : ∃ y_ : List Int, y_ = (x3_1 ++ [(rd_T129 l0 x4_1).f0]) := ⟨_, rfl⟩
      replace H : (spec_l5Rests.l0 k1 l0 y335 (wrap64 (x4_1 + 1))) = some r := by first | (rw [hy335]; with_reducible exact H) | (have H2_ := (Option.bind_some _ _).symm.trans H; rw [hy335]; with_reducible exact H2_) | (have H2_ := (Option.bind_some _ _).symm.trans H; with_reducible exact H2_) | with_reducible exact H | (rw [hy335]; exact H) | exact H
      have Ny335 := Aside0.mk hy335
      clear hy335
      have H' := Aside0.mk H
      clear H
      have p334 : 0 ≤ (x4_1 : Int) := of_decide_eq_true (by first | (with_reducible assumption) | assumption)
      have q334 : x4_1 < (l0.length : Int) := of_decide_eq_true (by first | (with_reducible assumption) | assumption)
      obtain ⟨ad334, e334, hx334_0, hx334_1, hx334_2, hx334_3⟩ := at_T129 HR0.out x4_1 p334 q334
      cases e334
      replace hx334_0 := (HB.out.cell (World.block_lt_of_cell? w _ hx334_0)).trans hx334_0
      replace hx334_1 := (HB.out.cell (World.block_lt_of_cell? w _ hx334_1)).trans hx334_1
      replace hx334_2 := (HB.out.cell (World.block_lt_of_cell? w _ hx334_2)).trans hx334_2
      replace hx334_3 := (HB.out.cell (World.block_lt_of_cell? w _ hx334_3)).trans hx334_3
      replace p334 := eq_true p334
      replace q334 := eq_true q334
      go_wp2_with (first | ((with_reducible refine gate_builtin (b := .append) (xs := #[.tmp 12, .tmp 18]) rfl ?_); at_builtin; refine Kd.R_append (Kd.int .i64) (w0 := w) w.heap.size rfl (.tmp 12) (.tmp 18) 23 3 (.int .i64 0) 8 rfl Try.underlying23 info3 rfl (by decide) (by omega) u3 x3_1 ((rd_T129 l0 x4_1).f0) [.int .i64 ((rd_T129 l0 x4_1).f0)] (fun _ => True) (fun _ => False) rfl rfl ?aP (fun _ hk => hk.elim) ?aF ?aO ?aB ?aS ?aL ?_; (case aP => exact rfl); (case aB => exact (by repeat (first | (with_reducible first | exact HB.out | apply below_alloc | apply pw_below_drewN | apply below_drew1) | exact HB.out))); (case aF => exact (fun _ _ => trivial)); (case aO => exact (by (with_reducible repeat (first | apply Kd.R_alloc | apply Kd.R_drewN | apply Kd.R_drew)); exact HO_3.out)); (case aS => exact (below_size (by repeat (first | (with_reducible first | exact HB.out | apply below_alloc | apply pw_below_drewN | apply below_drew1) | exact HB.out)))); (case aL => have := LMc6.out; omega); intro v336 w7 ho hb hg hat; rw [← Ny335.out] at ho; have n0_ := Aside0.mk (hb); have n1_ := Aside0.mk (ho); clear HB; clear HO_3; have HB := n0_; have HO337 := n1_; clear n0_ n1_; clear ho hb hg hat))
      go_roundg k1
      case measure => have := HK1.out; omega
      case rel => exact ⟨(y335), (wrap64 (x4_1 + 1)), (by first | rfl | (simp; done) | (simp [*]; done)), H', ⟨by have := HK1.out; omega⟩, ⟨by (with_reducible repeat (first | apply Kd.R_alloc | apply Kd.R_drewN | apply Kd.R_drew)); exact HO337.out⟩, ⟨by repeat (first | (with_reducible first | exact HB.out | apply below_alloc | apply pw_below_drewN | apply below_drew1) | exact HB.out)⟩⟩
     ·rw [if_neg c6] at H
      exact absurd H (by simp)
    ·rw [if_neg c5] at H
     exact absurd H (by simp)
   ·rw [if_neg c4] at H
    have c4b0 : decide (x4_1 < (l0.length : Int)) = false := decide_eq_false c4
    clear c4
    obtain rfl := Option.some.inj H
    go_wp2
    go_ret
    exact ⟨_, by first | rfl | (simp [errW_none, errW_some] <;> rfl) | (simp [*, errW_none, errW_some] <;> rfl), by (with_reducible repeat (first | apply Kd.R_alloc | apply Kd.R_drewN | apply Kd.R_drew)); exact HO_3.out, by repeat (first | (with_reducible first | exact HB.out | apply below_alloc | apply pw_below_drewN | apply below_drew1) | exact HB.out)⟩

/-! ### spec_l5Pick: function 251 -/
mutual
def spec_l5Pick.l0 : Nat → List (S129) → List Int → Int → Int → Int → Int → Option (Int)
 | 0, _, _, _, _, _, _ => none
 | k + 1, x0, x1, x2, x3, x9, x10 => if x10 < (x0.length : Int) then (if 0 ≤ x10 then (if x10 < (x1.length : Int) then (if (rd x1 x10) = 0 then (spec_l5Pick.j1 k x0 x1 x2 x3 x9 x10 true) else (spec_l5Pick.j1 k x0 x1 x2 x3 x9 x10 (decide (((rd_T129 x0 x10).f2) > x2)))) else (none)) else (none)) else (some x9)
def spec_l5Pick.j1 : Nat → List (S129) → List Int → Int → Int → Int → Int → Bool → Option (Int)
 | 0, _, _, _, _, _, _, _ => none
 | k + 1, x0, x1, x2, x3, x9, x10, x30 => if x30 = true then (spec_l5Pick.l0 k x0 x1 x2 x3 x9 (wrap64 (x10 + 1))) else (if x9 < 0 then (spec_l5Pick.l0 k x0 x1 x2 x3 x10 (wrap64 (x10 + 1))) else (if x3 = 2 then (if 0 ≤ x10 then (if x10 < (x1.length : Int) then (if 0 ≤ x9 then (if x9 < (x1.length : Int) then (if (rd x1 x10) < (rd x1 x9) then (spec_l5Pick.l0 k x0 x1 x2 x3 x10 (wrap64 (x10 + 1))) else (if x3 = 4 then (if x10 < (x0.length : Int) then (if x9 < (x0.length : Int) then (if ((rd_T129 x0 x10).f3) < ((rd_T129 x0 x9).f3) then (spec_l5Pick.l0 k x0 x1 x2 x3 x10 (wrap64 (x10 + 1))) else (spec_l5Pick.l0 k x0 x1 x2 x3 x9 (wrap64 (x10 + 1)))) else (none)) else (none)) else (spec_l5Pick.l0 k x0 x1 x2 x3 x9 (wrap64 (x10 + 1))))) else (none)) else (none)) else (none)) else (none)) else (if x3 = 4 then (if 0 ≤ x10 then (if x10 < (x0.length : Int) then (if 0 ≤ x9 then (if x9 < (x0.length : Int) then (if ((rd_T129 x0 x10).f3) < ((rd_T129 x0 x9).f3) then (spec_l5Pick.l0 k x0 x1 x2 x3 x10 (wrap64 (x10 + 1))) else (spec_l5Pick.l0 k x0 x1 x2 x3 x9 (wrap64 (x10 + 1)))) else (none)) else (none)) else (none)) else (none)) else (spec_l5Pick.l0 k x0 x1 x2 x3 x9 (wrap64 (x10 + 1))))))
end
def spec_l5Pick.f (k : Nat) (l0 : List (S129)) (l1 : List Int) (a2 : Int) (a3 : Int) : Option (Int) := spec_l5Pick.l0 k l0 l1 a2 a3 (-1) 0
theorem spec_l5Pick.mono_l : ∀ k, (∀ y0 y1 y2 y3 y4 y5, LeO (spec_l5Pick.l0 k y0 y1 y2 y3 y4 y5) (spec_l5Pick.l0 (k + 1) y0 y1 y2 y3 y4 y5)) ∧ (∀ y0 y1 y2 y3 y4 y5 y6, LeO (spec_l5Pick.j1 k y0 y1 y2 y3 y4 y5 y6) (spec_l5Pick.j1 (k + 1) y0 y1 y2 y3 y4 y5 y6))
 | 0 => ⟨fun _ _ _ _ _ _ r h => by simp [spec_l5Pick.l0] at h, fun _ _ _ _ _ _ _ r h => by simp [spec_l5Pick.j1] at h⟩
 | k + 1 => by
  obtain ⟨ih0, ih1⟩ := spec_l5Pick.mono_l k
  refine ⟨?_, ?_⟩
  ·intro y0 y1 y2 y3 y4 y5
   unfold spec_l5Pick.l0
   repeat' first
   | (with_reducible exact ih0 _ _ _ _ _ _)
   | (with_reducible exact ih1 _ _ _ _ _ _ _)
   | (with_reducible exact LeO.refl _)
   | (with_reducible exact LeO.none _)
   | (with_reducible refine LeO.ite ?_ ?_)
   | (with_reducible refine LeO.bind ?_ (fun _ => ?_))
   | exact ih0 _ _ _ _ _ _
   | exact ih1 _ _ _ _ _ _ _
   | exact LeO.none _
   | refine LeO.ite ?_ ?_
   | refine LeO.bind ?_ (fun _ => ?_)
  ·intro y0 y1 y2 y3 y4 y5 y6
   unfold spec_l5Pick.j1
   repeat' first
   | (with_reducible exact ih0 _ _ _ _ _ _)
   | (with_reducible exact ih1 _ _ _ _ _ _ _)
   | (with_reducible exact LeO.refl _)
   | (with_reducible exact LeO.none _)
   | (with_reducible refine LeO.ite ?_ ?_)
   | (with_reducible refine LeO.bind ?_ (fun _ => ?_))
   | exact ih0 _ _ _ _ _ _
   | exact ih1 _ _ _ _ _ _ _
   | exact LeO.none _
   | refine LeO.ite ?_ ?_
   | refine LeO.bind ?_ (fun _ => ?_)
theorem spec_l5Pick.mono : ∀ a0 a1 a2 a3 k, LeO (spec_l5Pick.f k a0 a1 a2 a3) (spec_l5Pick.f (k + 1) a0 a1 a2 a3) := by
 intro a0 a1 a2 a3 k
 obtain ⟨ih0, ih1⟩ := spec_l5Pick.mono_l k
 unfold spec_l5Pick.f
 repeat' first
   | (with_reducible exact ih0 _ _ _ _ _ _)
   | (with_reducible exact ih1 _ _ _ _ _ _ _)
   | (with_reducible exact LeO.refl _)
   | (with_reducible exact LeO.none _)
   | (with_reducible refine LeO.ite ?_ ?_)
   | (with_reducible refine LeO.bind ?_ (fun _ => ?_))
   | exact ih0 _ _ _ _ _ _
   | exact ih1 _ _ _ _ _ _ _
   | exact LeO.none _
   | refine LeO.ite ?_ ?_
   | refine LeO.bind ?_ (fun _ => ?_)
set_option maxHeartbeats 8000000 in
set_option maxRecDepth 100000 in
theorem spec_l5Pick.calls (k : Nat) (A0 : Option Addr) (c0 : Nat) (l0 : List (S129)) (A1 : Option Addr) (c1 : Nat) (l1 : List Int) (a2 : Int) (a3 : Int) (r : Int) (w : World) (hr0 : Kd.C k129 w A0 l0.length l0) (hc0 : l0.length ≤ c0) (hr1 : Kd.C (Kd.int .i64) w A1 l1.length l1) (hc1 : l1.length ≤ c1) (h : spec_l5Pick.f k l0 l1 a2 a3 = some r) :
  Calls Try.prog 251 #[.slice A0 l0.length c0, .slice A1 l1.length c1, .int .i64 a2, .int .i64 a3] w fun e w' => e = .returned (.int .i64 r) ∧ Drawn0 w w' := by
 have HR0 := Aside0.mk hr0
 have HC0 := Aside0.mk hc0
 clear hr0 hc0
 have HR1 := Aside0.mk hr1
 have HC1 := Aside0.mk hc1
 clear hr1 hc1
 have H : (spec_l5Pick.l0 k l0 l1 a2 a3 (-1) 0) = some r := h
 clear h
 have H' := Aside0.mk H
 clear H
 go_enter Try.func251, Try.ntmps251
 go_wp2
 repeat (go_quiet (fail); try go_wp2)
 go_loopg [9, 10] k (fun kq v9 v10 w' => ∃ (x9_1 : Int) (x10_1 : Int), v9 = .int .i64 x9_1 ∧ v10 = .int .i64 x10_1 ∧ Aside0 (spec_l5Pick.l0 kq l0 l1 a2 a3 x9_1 x10_1 = some r) ∧ Aside0 (kq ≤ k) ∧ Drawn0 w w')
 case atStart => exact ⟨((-1)), (0), (by first | rfl | (simp; done) | (simp [*]; done)), (by first | rfl | (simp; done) | (simp [*]; done)), H', ⟨Nat.le_refl _⟩, by repeat (first | exact Drawn0.refl _ | apply Drawn0.step)⟩
 case round =>
  clear H'
  try clear c1
  try clear c2
  try clear p2
  obtain ⟨x9_1, x10_1, rfl, rfl, HA, HK1, ⟨m1, rfl⟩⟩ := hrel
  cases gk with
  | zero => exact absurd HA.out (by simp [spec_l5Pick.l0])
  | succ k1 =>
   have H := HA.out
   clear HA
   simp only [spec_l5Pick.l0] at H
   by_cases c5 : x10_1 < (l0.length : Int)
   ·rw [if_pos c5] at H
    have c5b0 : decide (x10_1 < (l0.length : Int)) = true := decide_eq_true c5
    clear c5
    have HC6 := Aside0.mk H
    clear H
    go_upto_region 5 with (fail)
    repeat (go_quiet (fail); go_upto_region 5 with (fail))
    go_cut [30] (fun v30 wc => ∃ (kq : Nat) (x30_5 : Bool), v30 = .bool x30_5 ∧ Aside0 (spec_l5Pick.j1 kq l0 l1 a2 a3 x9_1 x10_1 x30_5 = some r) ∧ Aside0 (kq ≤ k1) ∧ Drawn0 w wc)
    case first =>
     have H := HC6.out
     clear HC6
     by_cases c7 : 0 ≤ x10_1
     ·rw [if_pos c7] at H
      have c7b0 : decide (0 ≤ x10_1) = true := decide_eq_true c7
      clear c7
      (first | rw [c7b0] | (simp only [i64_w, i32_w]; rw [c7b0]) | skip)
      by_cases c8 : x10_1 < (l1.length : Int)
      ·rw [if_pos c8] at H
       have c8b0 : decide (x10_1 < (l1.length : Int)) = true := decide_eq_true c8
       clear c8
       by_cases c9 : (rd l1 x10_1) = 0
       ·rw [if_pos c9] at H
        have c9b0 : ((rd l1 x10_1) == 0) = true := beq_iff_eq.mpr c9
        have c9b1 : ((rd l1 x10_1) != 0) = false := bne_eq_false_iff_eq.mpr c9
        clear c9
        have H' := Aside0.mk H
        clear H
        have p338 : 0 ≤ (x10_1 : Int) := of_decide_eq_true (by first | (with_reducible assumption) | assumption)
        have q338 : x10_1 < (l1.length : Int) := of_decide_eq_true (by first | (with_reducible assumption) | assumption)
        obtain ⟨ad338, e338, hx338_0⟩ := Kd.at_int HR1.out x10_1 p338 q338
        cases e338
        replace p338 := eq_true p338
        replace q338 := eq_true q338
        go_wp2
        repeat (go_quiet (fail); try go_wp2)
        go_meet
        case rel => exact ⟨_, (true), (by first | rfl | (simp; done) | (simp [*]; done)), H', ⟨by have := HK1.out; first | omega | exact Nat.le_refl _⟩, by repeat (first | exact Drawn0.refl _ | apply Drawn0.step)⟩
       ·rw [if_neg c9] at H
        have c9b0 : ((rd l1 x10_1) == 0) = false := beq_eq_false_iff_ne.mpr c9
        have c9b1 : ((rd l1 x10_1) != 0) = true := bne_iff_ne.mpr c9
        have H' := Aside0.mk H
        clear H
        have p338 : 0 ≤ (x10_1 : Int) := of_decide_eq_true (by first | (with_reducible assumption) | assumption)
        have q338 : x10_1 < (l1.length : Int) := of_decide_eq_true (by first | (with_reducible assumption) | assumption)
        obtain ⟨ad338, e338, hx338_0⟩ := Kd.at_int HR1.out x10_1 p338 q338
        cases e338
        replace p338 := eq_true p338
        replace q338 := eq_true q338
        have p339 : 0 ≤ (x10_1 : Int) := of_decide_eq_true (by first | (with_reducible assumption) | assumption)
        have q339 : x10_1 < (l0.length : Int) := of_decide_eq_true (by first | (with_reducible assumption) | assumption)
        obtain ⟨ad339, e339, hx339_0, hx339_1, hx339_2, hx339_3⟩ := at_T129 HR0.out x10_1 p339 q339
        cases e339
        replace p339 := eq_true p339
        replace q339 := eq_true q339
        go_wp2
        repeat (go_quiet (fail); try go_wp2)
        go_meet
        case rel => exact ⟨_, (decide (((rd_T129 l0 x10_1).f2) > a2)), (by first | rfl | (simp; done) | (simp [*]; done)), H', ⟨by have := HK1.out; first | omega | exact Nat.le_refl _⟩, by repeat (first | exact Drawn0.refl _ | apply Drawn0.step)⟩
      ·rw [if_neg c8] at H
       exact absurd H (by simp)
     ·rw [if_neg c7] at H
      exact absurd H (by simp)
    case rest =>
     clear HC6
     try clear c1
     try clear c2
     try clear p2
     try clear p3
     try clear q3
     try clear hx3
     try clear c5
     try clear c5b0
     try clear c7
     try clear c7b0
     try clear c8
     try clear c8b0
     try clear c9
     try clear c9b0
     try clear c9b1
     try clear hx338_0
     try clear hx339_0
     try clear hx339_1
     try clear hx339_2
     try clear hx339_3
     try clear p2
     try clear p338
     try clear p339
     try clear q338
     try clear q339
     obtain ⟨kq, x30_5, rfl, HA, HJ5, ⟨mc5, rfl⟩⟩ := hcut
     cases kq with
     | zero => exact absurd HA.out (by simp [spec_l5Pick.j1])
     | succ kj5 =>
      have H := HA.out
      clear HA
      simp only [spec_l5Pick.j1] at H
      by_cases c10 : x30_5 = true
      ·subst c10
       have H1 : (spec_l5Pick.l0 kj5 l0 l1 a2 a3 x9_1 (wrap64 (x10_1 + 1))) = some r := by rw [if_pos rfl] at H; exact H
       clear H
       have H := H1
       clear H1
       have H' := Aside0.mk H
       clear H
       go_wp2
       repeat (go_quiet (fail); try go_wp2)
       go_roundg kj5
       case measure => have := HK1.out; have := HJ5.out; omega
       case rel => exact ⟨(x9_1), (wrap64 (x10_1 + 1)), (by first | rfl | (simp; done) | (simp [*]; done)), (by first | rfl | (simp; done) | (simp [*]; done)), H', ⟨by have := HK1.out; have := HJ5.out; omega⟩, by repeat (first | exact Drawn0.refl _ | apply Drawn0.step)⟩
      ·replace c10 := Bool.eq_false_iff.mpr c10
       subst c10
       have H1 : (if x9_1 < 0 then (spec_l5Pick.l0 kj5 l0 l1 a2 a3 x10_1 (wrap64 (x10_1 + 1))) else (if a3 = 2 then (if 0 ≤ x10_1 then (if x10_1 < (l1.length : Int) then (if 0 ≤ x9_1 then (if x9_1 < (l1.length : Int) then (if (rd l1 x10_1) < (rd l1 x9_1) then (spec_l5Pick.l0 kj5 l0 l1 a2 a3 x10_1 (wrap64 (x10_1 + 1))) else (if a3 = 4 then (if x10_1 < (l0.length : Int) then (if x9_1 < (l0.length : Int) then (if ((rd_T129 l0 x10_1).f3) < ((rd_T129 l0 x9_1).f3) then (spec_l5Pick.l0 kj5 l0 l1 a2 a3 x10_1 (wrap64 (x10_1 + 1))) else (spec_l5Pick.l0 kj5 l0 l1 a2 a3 x9_1 (wrap64 (x10_1 + 1)))) else (none)) else (none)) else (spec_l5Pick.l0 kj5 l0 l1 a2 a3 x9_1 (wrap64 (x10_1 + 1))))) else (none)) else (none)) else (none)) else (none)) else (if a3 = 4 then (if 0 ≤ x10_1 then (if x10_1 < (l0.length : Int) then (if 0 ≤ x9_1 then (if x9_1 < (l0.length : Int) then (if ((rd_T129 l0 x10_1).f3) < ((rd_T129 l0 x9_1).f3) then (spec_l5Pick.l0 kj5 l0 l1 a2 a3 x10_1 (wrap64 (x10_1 + 1))) else (spec_l5Pick.l0 kj5 l0 l1 a2 a3 x9_1 (wrap64 (x10_1 + 1)))) else (none)) else (none)) else (none)) else (none)) else (spec_l5Pick.l0 kj5 l0 l1 a2 a3 x9_1 (wrap64 (x10_1 + 1)))))) = some r := by rw [if_neg (show ¬ (false = true) by decide)] at H; exact H
       clear H
       have H := H1
       clear H1
       by_cases c11 : x9_1 < 0
       ·rw [if_pos c11] at H
        have c11b0 : decide (x9_1 < 0) = true := decide_eq_true c11
        clear c11
        have H' := Aside0.mk H
        clear H
        go_wp2
        repeat (go_quiet (fail); try go_wp2)
        go_roundg kj5
        case measure => have := HK1.out; have := HJ5.out; omega
        case rel => exact ⟨(x10_1), (wrap64 (x10_1 + 1)), (by first | rfl | (simp; done) | (simp [*]; done)), (by first | rfl | (simp; done) | (simp [*]; done)), H', ⟨by have := HK1.out; have := HJ5.out; omega⟩, by repeat (first | exact Drawn0.refl _ | apply Drawn0.step)⟩
       ·rw [if_neg c11] at H
        have c11b0 : decide (x9_1 < 0) = false := decide_eq_false c11
        clear c11
        by_cases c12 : a3 = 2
        ·rw [if_pos c12] at H
         have c12b0 : (a3 == 2) = true := beq_iff_eq.mpr c12
         have c12b1 : (a3 != 2) = false := bne_eq_false_iff_eq.mpr c12
         clear c12
         by_cases c13 : 0 ≤ x10_1
         ·rw [if_pos c13] at H
          have c13b0 : decide (0 ≤ x10_1) = true := decide_eq_true c13
          clear c13
          by_cases c14 : x10_1 < (l1.length : Int)
          ·rw [if_pos c14] at H
           have c14b0 : decide (x10_1 < (l1.length : Int)) = true := decide_eq_true c14
           clear c14
           by_cases c15 : 0 ≤ x9_1
           ·rw [if_pos c15] at H
            have c15b0 : decide (0 ≤ x9_1) = true := decide_eq_true c15
            clear c15
            by_cases c16 : x9_1 < (l1.length : Int)
            ·rw [if_pos c16] at H
             have c16b0 : decide (x9_1 < (l1.length : Int)) = true := decide_eq_true c16
             clear c16
             by_cases c17 : (rd l1 x10_1) < (rd l1 x9_1)
             ·rw [if_pos c17] at H
              have c17b0 : decide ((rd l1 x10_1) < (rd l1 x9_1)) = true := decide_eq_true c17
              clear c17
              have H' := Aside0.mk H
              clear H
              have p340 : 0 ≤ (x10_1 : Int) := of_decide_eq_true (by first | (with_reducible assumption) | assumption)
              have q340 : x10_1 < (l1.length : Int) := of_decide_eq_true (by first | (with_reducible assumption) | assumption)
              obtain ⟨ad340, e340, hx340_0⟩ := Kd.at_int HR1.out x10_1 p340 q340
              cases e340
              replace p340 := eq_true p340
              replace q340 := eq_true q340
              have p341 : 0 ≤ (x9_1 : Int) := of_decide_eq_true (by first | (with_reducible assumption) | assumption)
              have q341 : x9_1 < (l1.length : Int) := of_decide_eq_true (by first | (with_reducible assumption) | assumption)
              obtain ⟨ad341, e341, hx341_0⟩ := Kd.at_int HR1.out x9_1 p341 q341
              obtain rfl : ad340 = ad341 := (by injection e341)
              replace p341 := eq_true p341
              replace q341 := eq_true q341
              go_wp2
              repeat (go_quiet (fail); try go_wp2)
              go_roundg kj5
              case measure => have := HK1.out; have := HJ5.out; omega
              case rel => exact ⟨(x10_1), (wrap64 (x10_1 + 1)), (by first | rfl | (simp; done) | (simp [*]; done)), (by first | rfl | (simp; done) | (simp [*]; done)), H', ⟨by have := HK1.out; have := HJ5.out; omega⟩, by repeat (first | exact Drawn0.refl _ | apply Drawn0.step)⟩
             ·rw [if_neg c17] at H
              have c17b0 : decide ((rd l1 x10_1) < (rd l1 x9_1)) = false := decide_eq_false c17
              clear c17
              by_cases c18 : a3 = 4
              ·rw [if_pos c18] at H
               have c18b0 : (a3 == 4) = true := beq_iff_eq.mpr c18
               have c18b1 : (a3 != 4) = false := bne_eq_false_iff_eq.mpr c18
               clear c18
               by_cases c19 : x10_1 < (l0.length : Int)
               ·rw [if_pos c19] at H
                have c19b0 : decide (x10_1 < (l0.length : Int)) = true := decide_eq_true c19
                clear c19
                by_cases c20 : x9_1 < (l0.length : Int)
                ·rw [if_pos c20] at H
                 have c20b0 : decide (x9_1 < (l0.length : Int)) = true := decide_eq_true c20
                 clear c20
                 by_cases c21 : ((rd_T129 l0 x10_1).f3) < ((rd_T129 l0 x9_1).f3)
                 ·rw [if_pos c21] at H
                  have c21b0 : decide (((rd_T129 l0 x10_1).f3) < ((rd_T129 l0 x9_1).f3)) = true := decide_eq_true c21
                  clear c21
                  have H' := Aside0.mk H
                  clear H
                  have p340 : 0 ≤ (x10_1 : Int) := of_decide_eq_true (by first | (with_reducible assumption) | assumption)
                  have q340 : x10_1 < (l1.length : Int) := of_decide_eq_true (by first | (with_reducible assumption) | assumption)
                  obtain ⟨ad340, e340, hx340_0⟩ := Kd.at_int HR1.out x10_1 p340 q340
                  cases e340
                  replace p340 := eq_true p340
                  replace q340 := eq_true q340
                  have p341 : 0 ≤ (x9_1 : Int) := of_decide_eq_true (by first | (with_reducible assumption) | assumption)
                  have q341 : x9_1 < (l1.length : Int) := of_decide_eq_true (by first | (with_reducible assumption) | assumption)
                  obtain ⟨ad341, e341, hx341_0⟩ := Kd.at_int HR1.out x9_1 p341 q341
                  obtain rfl : ad340 = ad341 := (by injection e341)
                  replace p341 := eq_true p341
                  replace q341 := eq_true q341
                  have p342 : 0 ≤ (x10_1 : Int) := of_decide_eq_true (by first | (with_reducible assumption) | assumption)
                  have q342 : x10_1 < (l0.length : Int) := of_decide_eq_true (by first | (with_reducible assumption) | assumption)
                  obtain ⟨ad342, e342, hx342_0, hx342_1, hx342_2, hx342_3⟩ := at_T129 HR0.out x10_1 p342 q342
                  cases e342
                  replace p342 := eq_true p342
                  replace q342 := eq_true q342
                  have p343 : 0 ≤ (x9_1 : Int) := of_decide_eq_true (by first | (with_reducible assumption) | assumption)
                  have q343 : x9_1 < (l0.length : Int) := of_decide_eq_true (by first | (with_reducible assumption) | assumption)
                  obtain ⟨ad343, e343, hx343_0, hx343_1, hx343_2, hx343_3⟩ := at_T129 HR0.out x9_1 p343 q343
                  obtain rfl : ad342 = ad343 := (by injection e343)
                  replace p343 := eq_true p343
                  replace q343 := eq_true q343
                  go_wp2
                  repeat (go_quiet (fail); try go_wp2)
                  go_roundg kj5
                  case measure => have := HK1.out; have := HJ5.out; omega
                  case rel => exact ⟨(x10_1), (wrap64 (x10_1 + 1)), (by first | rfl | (simp; done) | (simp [*]; done)), (by first | rfl | (simp; done) | (simp [*]; done)), H', ⟨by have := HK1.out; have := HJ5.out; omega⟩, by repeat (first | exact Drawn0.refl _ | apply Drawn0.step)⟩
                 ·rw [if_neg c21] at H
                  have c21b0 : decide (((rd_T129 l0 x10_1).f3) < ((rd_T129 l0 x9_1).f3)) = false := decide_eq_false c21
                  clear c21
                  have H' := Aside0.mk H
                  clear H
                  have p340 : 0 ≤ (x10_1 : Int) := of_decide_eq_true (by first | (with_reducible assumption) | assumption)
                  have q340 : x10_1 < (l1.length : Int) := of_decide_eq_true (by first | (with_reducible assumption) | assumption)
                  obtain ⟨ad340, e340, hx340_0⟩ := Kd.at_int HR1.out x10_1 p340 q340
                  cases e340
                  replace p340 := eq_true p340
                  replace q340 := eq_true q340
                  have p341 : 0 ≤ (x9_1 : Int) := of_decide_eq_true (by first | (with_reducible assumption) | assumption)
                  have q341 : x9_1 < (l1.length : Int) := of_decide_eq_true (by first | (with_reducible assumption) | assumption)
                  obtain ⟨ad341, e341, hx341_0⟩ := Kd.at_int HR1.out x9_1 p341 q341
                  obtain rfl : ad340 = ad341 := (by injection e341)
                  replace p341 := eq_true p341
                  replace q341 := eq_true q341
                  have p342 : 0 ≤ (x10_1 : Int) := of_decide_eq_true (by first | (with_reducible assumption) | assumption)
                  have q342 : x10_1 < (l0.length : Int) := of_decide_eq_true (by first | (with_reducible assumption) | assumption)
                  obtain ⟨ad342, e342, hx342_0, hx342_1, hx342_2, hx342_3⟩ := at_T129 HR0.out x10_1 p342 q342
                  cases e342
                  replace p342 := eq_true p342
                  replace q342 := eq_true q342
                  have p343 : 0 ≤ (x9_1 : Int) := of_decide_eq_true (by first | (with_reducible assumption) | assumption)
                  have q343 : x9_1 < (l0.length : Int) := of_decide_eq_true (by first | (with_reducible assumption) | assumption)
                  obtain ⟨ad343, e343, hx343_0, hx343_1, hx343_2, hx343_3⟩ := at_T129 HR0.out x9_1 p343 q343
                  obtain rfl : ad342 = ad343 := (by injection e343)
                  replace p343 := eq_true p343
                  replace q343 := eq_true q343
                  go_wp2
                  repeat (go_quiet (fail); try go_wp2)
                  go_roundg kj5
                  case measure => have := HK1.out; have := HJ5.out; omega
                  case rel => exact ⟨(x9_1), (wrap64 (x10_1 + 1)), (by first | rfl | (simp; done) | (simp [*]; done)), (by first | rfl | (simp; done) | (simp [*]; done)), H', ⟨by have := HK1.out; have := HJ5.out; omega⟩, by repeat (first | exact Drawn0.refl _ | apply Drawn0.step)⟩
                ·rw [if_neg c20] at H
                 exact absurd H (by simp)
               ·rw [if_neg c19] at H
                exact absurd H (by simp)
              ·rw [if_neg c18] at H
               have c18b0 : (a3 == 4) = false := beq_eq_false_iff_ne.mpr c18
               have c18b1 : (a3 != 4) = true := bne_iff_ne.mpr c18
               have H' := Aside0.mk H
               clear H
               have p340 : 0 ≤ (x10_1 : Int) := of_decide_eq_true (by first | (with_reducible assumption) | assumption)
               have q340 : x10_1 < (l1.length : Int) := of_decide_eq_true (by first | (with_reducible assumption) | assumption)
               obtain ⟨ad340, e340, hx340_0⟩ := Kd.at_int HR1.out x10_1 p340 q340
               cases e340
               replace p340 := eq_true p340
               replace q340 := eq_true q340
               have p341 : 0 ≤ (x9_1 : Int) := of_decide_eq_true (by first | (with_reducible assumption) | assumption)
               have q341 : x9_1 < (l1.length : Int) := of_decide_eq_true (by first | (with_reducible assumption) | assumption)
               obtain ⟨ad341, e341, hx341_0⟩ := Kd.at_int HR1.out x9_1 p341 q341
               obtain rfl : ad340 = ad341 := (by injection e341)
               replace p341 := eq_true p341
               replace q341 := eq_true q341
               go_wp2
               repeat (go_quiet (fail); try go_wp2)
               go_roundg kj5
               case measure => have := HK1.out; have := HJ5.out; omega
               case rel => exact ⟨(x9_1), (wrap64 (x10_1 + 1)), (by first | rfl | (simp; done) | (simp [*]; done)), (by first | rfl | (simp; done) | (simp [*]; done)), H', ⟨by have := HK1.out; have := HJ5.out; omega⟩, by repeat (first | exact Drawn0.refl _ | apply Drawn0.step)⟩
            ·rw [if_neg c16] at H
             exact absurd H (by simp)
           ·rw [if_neg c15] at H
            exact absurd H (by simp)
          ·rw [if_neg c14] at H
           exact absurd H (by simp)
         ·rw [if_neg c13] at H
          exact absurd H (by simp)
        ·rw [if_neg c12] at H
         have c12b0 : (a3 == 2) = false := beq_eq_false_iff_ne.mpr c12
         have c12b1 : (a3 != 2) = true := bne_iff_ne.mpr c12
         by_cases c22 : a3 = 4
         ·rw [if_pos c22] at H
          have c22b0 : (a3 == 4) = true := beq_iff_eq.mpr c22
          have c22b1 : (a3 != 4) = false := bne_eq_false_iff_eq.mpr c22
          clear c22
          by_cases c23 : 0 ≤ x10_1
          ·rw [if_pos c23] at H
           have c23b0 : decide (0 ≤ x10_1) = true := decide_eq_true c23
           clear c23
           by_cases c24 : x10_1 < (l0.length : Int)
           ·rw [if_pos c24] at H
            have c24b0 : decide (x10_1 < (l0.length : Int)) = true := decide_eq_true c24
            clear c24
            by_cases c25 : 0 ≤ x9_1
            ·rw [if_pos c25] at H
             have c25b0 : decide (0 ≤ x9_1) = true := decide_eq_true c25
             clear c25
             by_cases c26 : x9_1 < (l0.length : Int)
             ·rw [if_pos c26] at H
              have c26b0 : decide (x9_1 < (l0.length : Int)) = true := decide_eq_true c26
              clear c26
              by_cases c27 : ((rd_T129 l0 x10_1).f3) < ((rd_T129 l0 x9_1).f3)
              ·rw [if_pos c27] at H
               have c27b0 : decide (((rd_T129 l0 x10_1).f3) < ((rd_T129 l0 x9_1).f3)) = true := decide_eq_true c27
               clear c27
               have H' := Aside0.mk H
               clear H
               have p344 : 0 ≤ (x10_1 : Int) := of_decide_eq_true (by first | (with_reducible assumption) | assumption)
               have q344 : x10_1 < (l0.length : Int) := of_decide_eq_true (by first | (with_reducible assumption) | assumption)
               obtain ⟨ad344, e344, hx344_0, hx344_1, hx344_2, hx344_3⟩ := at_T129 HR0.out x10_1 p344 q344
               cases e344
               replace p344 := eq_true p344
               replace q344 := eq_true q344
               have p345 : 0 ≤ (x9_1 : Int) := of_decide_eq_true (by first | (with_reducible assumption) | assumption)
               have q345 : x9_1 < (l0.length : Int) := of_decide_eq_true (by first | (with_reducible assumption) | assumption)
               obtain ⟨ad345, e345, hx345_0, hx345_1, hx345_2, hx345_3⟩ := at_T129 HR0.out x9_1 p345 q345
               obtain rfl : ad344 = ad345 := (by injection e345)
               replace p345 := eq_true p345
               replace q345 := eq_true q345
               go_wp2
               repeat (go_quiet (fail); try go_wp2)
               go_roundg kj5
               case measure => have := HK1.out; have := HJ5.out; omega
               case rel => exact ⟨(x10_1), (wrap64 (x10_1 + 1)), (by first | rfl | (simp; done) | (simp [*]; done)), (by first | rfl | (simp; done) | (simp [*]; done)), H', ⟨by have := HK1.out; have := HJ5.out; omega⟩, by repeat (first | exact Drawn0.refl _ | apply Drawn0.step)⟩
              ·rw [if_neg c27] at H
               have c27b0 : decide (((rd_T129 l0 x10_1).f3) < ((rd_T129 l0 x9_1).f3)) = false := decide_eq_false c27
               clear c27
               have H' := Aside0.mk H
               clear H
               have p344 : 0 ≤ (x10_1 : Int) := of_decide_eq_true (by first | (with_reducible assumption) | assumption)
               have q344 : x10_1 < (l0.length : Int) := of_decide_eq_true (by first | (with_reducible assumption) | assumption)
               obtain ⟨ad344, e344, hx344_0, hx344_1, hx344_2, hx344_3⟩ := at_T129 HR0.out x10_1 p344 q344
               cases e344
               replace p344 := eq_true p344
               replace q344 := eq_true q344
               have p345 : 0 ≤ (x9_1 : Int) := of_decide_eq_true (by first | (with_reducible assumption) | assumption)
               have q345 : x9_1 < (l0.length : Int) := of_decide_eq_true (by first | (with_reducible assumption) | assumption)
               obtain ⟨ad345, e345, hx345_0, hx345_1, hx345_2, hx345_3⟩ := at_T129 HR0.out x9_1 p345 q345
               obtain rfl : ad344 = ad345 := (by injection e345)
               replace p345 := eq_true p345
               replace q345 := eq_true q345
               go_wp2
               repeat (go_quiet (fail); try go_wp2)
               go_roundg kj5
               case measure => have := HK1.out; have := HJ5.out; omega
               case rel => exact ⟨(x9_1), (wrap64 (x10_1 + 1)), (by first | rfl | (simp; done) | (simp [*]; done)), (by first | rfl | (simp; done) | (simp [*]; done)), H', ⟨by have := HK1.out; have := HJ5.out; omega⟩, by repeat (first | exact Drawn0.refl _ | apply Drawn0.step)⟩
             ·rw [if_neg c26] at H
              exact absurd H (by simp)
            ·rw [if_neg c25] at H
             exact absurd H (by simp)
           ·rw [if_neg c24] at H
            exact absurd H (by simp)
          ·rw [if_neg c23] at H
           exact absurd H (by simp)
         ·rw [if_neg c22] at H
          have c22b0 : (a3 == 4) = false := beq_eq_false_iff_ne.mpr c22
          have c22b1 : (a3 != 4) = true := bne_iff_ne.mpr c22
          have H' := Aside0.mk H
          clear H
          go_wp2
          repeat (go_quiet (fail); try go_wp2)
          go_roundg kj5
          case measure => have := HK1.out; have := HJ5.out; omega
          case rel => exact ⟨(x9_1), (wrap64 (x10_1 + 1)), (by first | rfl | (simp; done) | (simp [*]; done)), (by first | rfl | (simp; done) | (simp [*]; done)), H', ⟨by have := HK1.out; have := HJ5.out; omega⟩, by repeat (first | exact Drawn0.refl _ | apply Drawn0.step)⟩
   ·rw [if_neg c5] at H
    have c5b0 : decide (x10_1 < (l0.length : Int)) = false := decide_eq_false c5
    clear c5
    obtain rfl := Option.some.inj H
    go_wp2
    repeat (go_quiet (fail); try go_wp2)
    go_ret
    exact ⟨by first | rfl | (simp; done) | (simp [*]; done), by repeat (first | exact Drawn0.refl _ | apply Drawn0.step)⟩

/-! ### spec_l5Choose: function 198 -/
mutual
def spec_l5Choose.l0 : Nat → List (S129) → Int → Int → List (S203) → List Int → Int → Int → Option ((List (S203)))
 | 0, _, _, _, _, _, _, _ => none
 | k + 1, x0, x2, x3, x9, x10, x11, x12 => if x12 < (x10.length : Int) then (if 0 ≤ x12 then (spec_l5Choose.l0 k x0 x2 x3 x9 x10 (wrap64 (x11 + (rd x10 x12))) (wrap64 (x12 + 1))) else (none)) else (spec_l5Choose.l1 k x0 x3 x9 x10 x11 x2)
def spec_l5Choose.l1 : Nat → List (S129) → Int → List (S203) → List Int → Int → Int → Option ((List (S203)))
 | 0, _, _, _, _, _, _ => none
 | k + 1, x0, x3, x9, x10, x11, x13 => if x11 > 0 then ((spec_l5Pick.f k x0 x10 x13 x3).bind fun t353 => (if t353 < 0 then (spec_l5Choose.l1 k x0 x3 x9 x10 x11 (wrap64 (x13 + 1))) else (if (wrap64 ((x9.length : Int) - 1)) ≥ 0 then (if 0 ≤ (wrap64 ((x9.length : Int) - 1)) then (if (wrap64 ((x9.length : Int) - 1)) < (x9.length : Int) then (if ((rd_T203 x9 (wrap64 ((x9.length : Int) - 1))).f0) = t353 then (if ((rd_T203 x9 (wrap64 ((x9.length : Int) - 1))).f2) = x13 then (if 0 ≤ t353 then (if t353 < (x10.length : Int) then (spec_l5Choose.l1 k x0 x3 (x9.set ((wrap64 ((x9.length : Int) - 1)) : Int).toNat (⟨(rd_T203 x9 (wrap64 ((x9.length : Int) - 1))).f0, (rd_T203 x9 (wrap64 ((x9.length : Int) - 1))).f1, wrap64 (x13 + 1)⟩ : S203)) (x10.set (t353 : Int).toNat (wrap64 ((rd x10 t353) - 1))) (wrap64 (x11 - 1)) (wrap64 (x13 + 1))) else (none)) else (none)) else (if x9.length < 5864062014805 then (if 0 ≤ t353 then (if t353 < (x10.length : Int) then (spec_l5Choose.l1 k x0 x3 (x9 ++ [(⟨t353, x13, wrap64 (x13 + 1)⟩ : S203)]) (x10.set (t353 : Int).toNat (wrap64 ((rd x10 t353) - 1))) (wrap64 (x11 - 1)) (wrap64 (x13 + 1))) else (none)) else (none)) else (none))) else (if x9.length < 5864062014805 then (if 0 ≤ t353 then (if t353 < (x10.length : Int) then (spec_l5Choose.l1 k x0 x3 (x9 ++ [(⟨t353, x13, wrap64 (x13 + 1)⟩ : S203)]) (x10.set (t353 : Int).toNat (wrap64 ((rd x10 t353) - 1))) (wrap64 (x11 - 1)) (wrap64 (x13 + 1))) else (none)) else (none)) else (none))) else (none)) else (none)) else (if x9.length < 5864062014805 then (if 0 ≤ t353 then (if t353 < (x10.length : Int) then (spec_l5Choose.l1 k x0 x3 (x9 ++ [(⟨t353, x13, wrap64 (x13 + 1)⟩ : S203)]) (x10.set (t353 : Int).toNat (wrap64 ((rd x10 t353) - 1))) (wrap64 (x11 - 1)) (wrap64 (x13 + 1))) else (none)) else (none)) else (none))))) else (some x9)
end
def spec_l5Choose.f (k : Nat) (l0 : List (S129)) (l1 : List Int) (a2 : Int) (a3 : Int) : Option ((List (S203))) := (spec_l1Own.f l1).bind fun t349 => (spec_l5Choose.l0 k l0 a2 a3 (([] : List (S203))) t349 0 0)
theorem spec_l5Choose.mono_l : ∀ k, (∀ y0 y1 y2 y3 y4 y5 y6, LeO (spec_l5Choose.l0 k y0 y1 y2 y3 y4 y5 y6) (spec_l5Choose.l0 (k + 1) y0 y1 y2 y3 y4 y5 y6)) ∧ (∀ y0 y1 y2 y3 y4 y5, LeO (spec_l5Choose.l1 k y0 y1 y2 y3 y4 y5) (spec_l5Choose.l1 (k + 1) y0 y1 y2 y3 y4 y5))
 | 0 => ⟨fun _ _ _ _ _ _ _ r h => by simp [spec_l5Choose.l0] at h, fun _ _ _ _ _ _ r h => by simp [spec_l5Choose.l1] at h⟩
 | k + 1 => by
  obtain ⟨ih0, ih1⟩ := spec_l5Choose.mono_l k
  refine ⟨?_, ?_⟩
  ·intro y0 y1 y2 y3 y4 y5 y6
   unfold spec_l5Choose.l0
   repeat' first
   | (with_reducible exact ih0 _ _ _ _ _ _ _)
   | (with_reducible exact ih1 _ _ _ _ _ _)
   | (with_reducible exact spec_l5Pick.mono _ _ _ _ _)
   | (with_reducible exact LeO.refl _)
   | (with_reducible exact LeO.none _)
   | (with_reducible refine LeO.ite ?_ ?_)
   | (with_reducible refine LeO.bind ?_ (fun _ => ?_))
   | exact ih0 _ _ _ _ _ _ _
   | exact ih1 _ _ _ _ _ _
   | exact spec_l5Pick.mono _ _ _ _ _
   | exact LeO.none _
   | refine LeO.ite ?_ ?_
   | refine LeO.bind ?_ (fun _ => ?_)
  ·intro y0 y1 y2 y3 y4 y5
   unfold spec_l5Choose.l1
   repeat' first
   | (with_reducible exact ih0 _ _ _ _ _ _ _)
   | (with_reducible exact ih1 _ _ _ _ _ _)
   | (with_reducible exact spec_l5Pick.mono _ _ _ _ _)
   | (with_reducible exact LeO.refl _)
   | (with_reducible exact LeO.none _)
   | (with_reducible refine LeO.ite ?_ ?_)
   | (with_reducible refine LeO.bind ?_ (fun _ => ?_))
   | exact ih0 _ _ _ _ _ _ _
   | exact ih1 _ _ _ _ _ _
   | exact spec_l5Pick.mono _ _ _ _ _
   | exact LeO.none _
   | refine LeO.ite ?_ ?_
   | refine LeO.bind ?_ (fun _ => ?_)
theorem spec_l5Choose.mono : ∀ a0 a1 a2 a3 k, LeO (spec_l5Choose.f k a0 a1 a2 a3) (spec_l5Choose.f (k + 1) a0 a1 a2 a3) := by
 intro a0 a1 a2 a3 k
 obtain ⟨ih0, ih1⟩ := spec_l5Choose.mono_l k
 unfold spec_l5Choose.f
 repeat' first
   | (with_reducible exact ih0 _ _ _ _ _ _ _)
   | (with_reducible exact ih1 _ _ _ _ _ _)
   | (with_reducible exact spec_l5Pick.mono _ _ _ _ _)
   | (with_reducible exact LeO.refl _)
   | (with_reducible exact LeO.none _)
   | (with_reducible refine LeO.ite ?_ ?_)
   | (with_reducible refine LeO.bind ?_ (fun _ => ?_))
   | exact ih0 _ _ _ _ _ _ _
   | exact ih1 _ _ _ _ _ _
   | exact spec_l5Pick.mono _ _ _ _ _
   | exact LeO.none _
   | refine LeO.ite ?_ ?_
   | refine LeO.bind ?_ (fun _ => ?_)
set_option maxHeartbeats 8000000 in
set_option maxRecDepth 100000 in
theorem spec_l5Choose.calls (k : Nat) (A0 : Option Addr) (c0 : Nat) (l0 : List (S129)) (A1 : Option Addr) (c1 : Nat) (l1 : List Int) (a2 : Int) (a3 : Int) (r : List (S203)) (w : World) (hr0 : Kd.C k129 w A0 l0.length l0) (hc0 : l0.length ≤ c0) (hr1 : Kd.C (Kd.int .i64) w A1 l1.length l1) (hc1 : l1.length ≤ c1) (h : spec_l5Choose.f k l0 l1 a2 a3 = some r) :
  Calls Try.prog 198 #[.slice A0 l0.length c0, .slice A1 l1.length c1, .int .i64 a2, .int .i64 a3] w fun e w' => ∃ v0_ : Value, e = .returned (v0_) ∧ Kd.R k203 203 w' w.heap.size (fun _ => True) v0_ r ∧ Below w.heap.size w w' := by
 have hu203 := Try.underlying203
 have HR0 := Aside0.mk hr0
 have HC0 := Aside0.mk hc0
 clear hr0 hc0
 have HR1 := Aside0.mk hr1
 have HC1 := Aside0.mk hc1
 clear hr1 hc1
 have HB := Aside0.mk (Below.refl w.heap.size w)
 have H : ((spec_l1Own.f l1).bind fun t349 => (spec_l5Choose.l0 k l0 a2 a3 (([] : List (S203))) t349 0 0)) = some r := h
 clear h
 obtain ⟨y346, hy346⟩ : ∃ y_ : List (S203), y_ = (([] : List (S203))) := ⟨_, rfl⟩
 replace H : ((spec_l1Own.f l1).bind fun t349 => (spec_l5Choose.l0 k l0 a2 a3 y346 t349 0 0)) = some r := by first | (rw [hy346]; with_reducible exact H) | (have H2_ := (Option.bind_some _ _).symm.trans H; rw [hy346]; with_reducible exact H2_) | (have H2_ := (Option.bind_some _ _).symm.trans H; with_reducible exact H2_) | with_reducible exact H | (rw [hy346]; exact H) | exact H
 have Ny346 := Aside0.mk hy346
 clear hy346
 replace H := Option.bind_eq_some_iff.mp H
 obtain ⟨t349, A50, H⟩ := H
 replace H : (spec_l5Choose.l0 k l0 a2 a3 y346 t349 0 0) = some r := H
 have A5 := Aside0.mk A50
 clear A50
 have H' := Aside0.mk H
 clear H
 go_enter Try.func198, Try.ntmps198
 go_wp2_with (first | ((with_reducible refine gate_dst (N := 16) rfl ?_); refine Kd.R_lit k203 _ 203 ?hg (N := 16) ?hd (xs := ([] : List (S203))) (inner := []) (ok := fun _ => True) (okp := fun _ => True) ?hr ?hp (fun _ hk => hk) trivial (Below.refl _ _) (Nat.le_refl _) (by simp) ?_; (case hd => rfl); (case hg => rfl); (case hr => first | (go_simp; done) | (go_simp; rfl)); (case hp => exact (Reps.none _ _)); intro v347 w6 ho7 hb hg_ hnew_; clear hg_ hnew_; (first | rw [← Ny346.out] at ho7 | (simp only [Int.reduceToNat] at ho7; rw [← Ny346.out] at ho7)); have n0_ := Aside0.mk (Kd.R_lower ho7 (below_size (by repeat (first | (with_reducible first | exact HB.out | apply below_alloc | apply pw_below_drewN | apply below_drew1) | exact HB.out)))); have n1_ := Aside0.mk (below_step (by repeat (first | (with_reducible first | exact HB.out | apply below_alloc | apply pw_below_drewN | apply below_drew1) | exact HB.out)) hb); clear HB; have HO348 := n0_; have HB := n1_; clear n0_ n1_; clear hb ho7) | ((with_reducible refine gate_callee (f := 93) rfl ?_); refine goesL_ (some 18) rfl rfl Try.func93 (by kernel_rfl) rfl #[.slice A1 l1.length c1] rfl (by (try simp only [List.map_toArray, List.map_cons, List.map_nil]); first | done | rfl | (simp only [List.length_drop, List.length_take]; rfl)) ?_; (with_reducible refine (spec_l1Own.calls _ _ l1 t349 _ ?side1 ?side2 A5.out).mono ?_); (case side1 => repeat (first | exact (Kd.C_below HR1.out HB.out) | (with_reducible refine Kd.C_alloc ?_ _) | (with_reducible refine Kd.C_drewN ?_ _) | (with_reducible refine Kd.C_drew ?_))); (case side2 => exact HC1.out); rintro e w8 ⟨v350, rfl, ho0, hb⟩; refine ⟨_, rfl, ?_⟩; have n0_ := Aside0.mk (Kd.R_below (by (with_reducible repeat (first | apply Kd.R_alloc | apply Kd.R_drewN | apply Kd.R_drew)); exact HO348.out) hb); have n1_ := Aside0.mk (Kd.R_lower ho0 (below_size (by repeat (first | (with_reducible first | exact HB.out | apply below_alloc | apply pw_below_drewN | apply below_drew1) | exact HB.out)))); have n2_ := Aside0.mk (below_step (by repeat (first | (with_reducible first | exact HB.out | apply below_alloc | apply pw_below_drewN | apply below_drew1) | exact HB.out)) hb); clear HO348; clear HB; have HO348 := n0_; have HO351 := n1_; have HB := n2_; clear n0_ n1_ n2_; (try clear hb); (try clear hb2); (try clear hk); (try clear hi); (try clear ho0)))
 go_loopg [11, 12] k (fun kq v11 v12 w' => ∃ (x11_1 : Int) (x12_1 : Int), v11 = .int .i64 x11_1 ∧ v12 = .int .i64 x12_1 ∧ Aside0 (spec_l5Choose.l0 kq l0 a2 a3 y346 t349 x11_1 x12_1 = some r) ∧ Aside0 (kq ≤ k) ∧ Aside0 (Kd.R k203 203 w' w.heap.size (fun _ => True) v347 y346) ∧ Aside0 (Kd.R (Kd.int .i64) 3 w' w.heap.size (fun _ => True) v350 t349) ∧ Aside0 (Below w.heap.size w w'))
 case atStart => exact ⟨(0), (0), (by first | rfl | (simp; done) | (simp [*]; done)), (by first | rfl | (simp; done) | (simp [*]; done)), H', ⟨Nat.le_refl _⟩, ⟨by (with_reducible repeat (first | apply Kd.R_alloc | apply Kd.R_drewN | apply Kd.R_drew)); exact HO348.out⟩, ⟨by (with_reducible repeat (first | apply Kd.R_alloc | apply Kd.R_drewN | apply Kd.R_drew)); exact HO351.out⟩, ⟨by repeat (first | (with_reducible first | exact HB.out | apply below_alloc | apply pw_below_drewN | apply below_drew1) | exact HB.out)⟩⟩
 case round =>
  clear H'
  try clear c1
  try clear p2
  obtain ⟨x11_1, x12_1, rfl, rfl, HA, HK1, HO_9, HO_10, HB⟩ := hrel
  cases gk with
  | zero => exact absurd HA.out (by simp [spec_l5Choose.l0])
  | succ k1 =>
   have H := HA.out
   clear HA
   simp only [spec_l5Choose.l0] at H
   by_cases c9 : x12_1 < (t349.length : Int)
   ·rw [if_pos c9] at H
    have c9b0 : decide (x12_1 < (t349.length : Int)) = true := decide_eq_true c9
    clear c9
    by_cases c10 : 0 ≤ x12_1
    ·rw [if_pos c10] at H
     have c10b0 : decide (0 ≤ x12_1) = true := decide_eq_true c10
     clear c10
     have H' := Aside0.mk H
     clear H
     obtain ⟨Ao11, co11, eo11⟩ := Kd.R_slice HO_10.out
     subst eo11
     have p352 : 0 ≤ (x12_1 : Int) := of_decide_eq_true (by first | (with_reducible assumption) | assumption)
     have q352 : x12_1 < (t349.length : Int) := of_decide_eq_true (by first | (with_reducible assumption) | assumption)
     obtain ⟨ad352, e352, hx352_0⟩ := Kd.at_int (Kd.R_reads' HO_10.out).2.2 x12_1 p352 q352
     cases e352
     replace p352 := eq_true p352
     replace q352 := eq_true q352
     go_wp2
     go_roundg k1
     case measure => have := HK1.out; omega
     case rel => exact ⟨(wrap64 (x11_1 + (rd t349 x12_1))), (wrap64 (x12_1 + 1)), (by first | rfl | (simp; done) | (simp [*]; done)), (by first | rfl | (simp; done) | (simp [*]; done)), H', ⟨by have := HK1.out; omega⟩, ⟨by (with_reducible repeat (first | apply Kd.R_alloc | apply Kd.R_drewN | apply Kd.R_drew)); exact HO_9.out⟩, ⟨by (with_reducible repeat (first | apply Kd.R_alloc | apply Kd.R_drewN | apply Kd.R_drew)); exact HO_10.out⟩, ⟨by repeat (first | (with_reducible first | exact HB.out | apply below_alloc | apply pw_below_drewN | apply below_drew1) | exact HB.out)⟩⟩
    ·rw [if_neg c10] at H
     exact absurd H (by simp)
   ·rw [if_neg c9] at H
    have c9b0 : decide (x12_1 < (t349.length : Int)) = false := decide_eq_false c9
    clear c9
    have H' := Aside0.mk H
    clear H
    obtain ⟨Ao12, co12, eo12⟩ := Kd.R_slice HO_10.out
    subst eo12
    go_wp2
    go_loopg [9, 11, 13] k1 (fun kq v9 v11 v13 w' => ∃ (x9_2 : List (S203)) (x10_2 : List Int) (x11_2 : Int) (x13_2 : Int), v11 = .int .i64 x11_2 ∧ v13 = .int .i64 x13_2 ∧ Aside0 (spec_l5Choose.l1 kq l0 a3 x9_2 x10_2 x11_2 x13_2 = some r) ∧ Aside0 (kq ≤ k1) ∧ Aside0 (Kd.R k203 203 w' w.heap.size (fun _ => True) v9 x9_2) ∧ Aside0 (Kd.R (Kd.int .i64) 3 w' w.heap.size (fun _ => True) (.slice Ao12 t349.length co12) x10_2) ∧ Aside0 (Below w.heap.size w w'))
    case atStart => exact ⟨(y346), (t349), (x11_1), (a2), (by first | rfl | (simp; done) | (simp [*]; done)), (by first | rfl | (simp; done) | (simp [*]; done)), H', ⟨Nat.le_refl _⟩, ⟨by (with_reducible repeat (first | apply Kd.R_alloc | apply Kd.R_drewN | apply Kd.R_drew)); exact HO_9.out⟩, ⟨by (with_reducible repeat (first | apply Kd.R_alloc | apply Kd.R_drewN | apply Kd.R_drew)); exact HO_10.out⟩, ⟨by repeat (first | (with_reducible first | exact HB.out | apply below_alloc | apply pw_below_drewN | apply below_drew1) | exact HB.out)⟩⟩
    case round =>
     clear H'
     try clear c1
     try clear p2
     try clear p3
     try clear q3
     try clear hx3
     try clear p6
     try clear c9
     try clear c9b0
     try clear c10
     try clear c10b0
     try clear hx352_0
     try clear p2
     try clear p352
     try clear q352
     obtain ⟨x9_2, x10_2, x11_2, x13_2, rfl, rfl, HA, HK2, HO_9, HO_10, HB⟩ := hrel
     have hl10_2 := (Kd.R_reads' HO_10.out).1
     rw [hl10_2] at HO_10
     (try simp only [hl10_2])
     (try simp only [hl10_2] at HO_9)
     cases gk with
     | zero => exact absurd HA.out (by simp [spec_l5Choose.l1])
     | succ k2 =>
      have H := HA.out
      clear HA
      simp only [spec_l5Choose.l1] at H
      by_cases c13 : x11_2 > 0
      ·rw [if_pos c13] at H
       have c13b0 : decide (0 < x11_2) = true := decide_eq_true c13
       clear c13
       replace H := Option.bind_eq_some_iff.mp H
       obtain ⟨t353, A140, H⟩ := H
       replace H : (if t353 < 0 then (spec_l5Choose.l1 k2 l0 a3 x9_2 x10_2 x11_2 (wrap64 (x13_2 + 1))) else (if (wrap64 ((x9_2.length : Int) - 1)) ≥ 0 then (if 0 ≤ (wrap64 ((x9_2.length : Int) - 1)) then (if (wrap64 ((x9_2.length : Int) - 1)) < (x9_2.length : Int) then (if ((rd_T203 x9_2 (wrap64 ((x9_2.length : Int) - 1))).f0) = t353 then (if ((rd_T203 x9_2 (wrap64 ((x9_2.length : Int) - 1))).f2) = x13_2 then (if 0 ≤ t353 then (if t353 < (x10_2.length : Int) then (spec_l5Choose.l1 k2 l0 a3 (x9_2.set ((wrap64 ((x9_2.length : Int) - 1)) : Int).toNat (⟨(rd_T203 x9_2 (wrap64 ((x9_2.length : Int) - 1))).f0, (rd_T203 x9_2 (wrap64 ((x9_2.length : Int) - 1))).f1, wrap64 (x13_2 + 1)⟩ : S203)) (x10_2.set (t353 : Int).toNat (wrap64 ((rd x10_2 t353) - 1))) (wrap64 (x11_2 - 1)) (wrap64 (x13_2 + 1))) else (none)) else (none)) else (if x9_2.length < 5864062014805 then (if 0 ≤ t353 then (if t353 < (x10_2.length : Int) then (spec_l5Choose.l1 k2 l0 a3 (x9_2 ++ [(⟨t353, x13_2, wrap64 (x13_2 + 1)⟩ : S203)]) (x10_2.set (t353 : Int).toNat (wrap64 ((rd x10_2 t353) - 1))) (wrap64 (x11_2 - 1)) (wrap64 (x13_2 + 1))) else (none)) else (none)) else (none))) else (if x9_2.length < 5864062014805 then (if 0 ≤ t353 then (if t353 < (x10_2.length : Int) then (spec_l5Choose.l1 k2 l0 a3 (x9_2 ++ [(⟨t353, x13_2, wrap64 (x13_2 + 1)⟩ : S203)]) (x10_2.set (t353 : Int).toNat (wrap64 ((rd x10_2 t353) - 1))) (wrap64 (x11_2 - 1)) (wrap64 (x13_2 + 1))) else (none)) else (none)) else (none))) else (none)) else (none)) else (if x9_2.length < 5864062014805 then (if 0 ≤ t353 then (if t353 < (x10_2.length : Int) then (spec_l5Choose.l1 k2 l0 a3 (x9_2 ++ [(⟨t353, x13_2, wrap64 (x13_2 + 1)⟩ : S203)]) (x10_2.set (t353 : Int).toNat (wrap64 ((rd x10_2 t353) - 1))) (wrap64 (x11_2 - 1)) (wrap64 (x13_2 + 1))) else (none)) else (none)) else (none)))) = some r := H
       have A14 := Aside0.mk A140
       clear A140
       by_cases c15 : t353 < 0
       ·rw [if_pos c15] at H
        have c15b0 : decide (t353 < 0) = true := decide_eq_true c15
        clear c15
        have H' := Aside0.mk H
        clear H
        go_wp2_with (first | ((with_reducible refine gate_callee (f := 251) rfl ?_); refine goesL_ (some 40) rfl rfl Try.func251 (by kernel_rfl) rfl #[.slice A0 l0.length c0, .slice Ao12 x10_2.length co12, .int .i64 x13_2, .int .i64 a3] rfl (by (try simp only [List.map_toArray, List.map_cons, List.map_nil]); first | done | rfl | (simp only [List.length_drop, List.length_take]; rfl)) ?_; (with_reducible refine (spec_l5Pick.calls k2 _ _ l0 _ _ x10_2 x13_2 a3 t353 _ ?side1 ?side2 ?side3 ?side4 A14.out).mono ?_); (case side1 => repeat (first | exact (Kd.C_below HR0.out HB.out) | (with_reducible refine Kd.C_alloc ?_ _) | (with_reducible refine Kd.C_drewN ?_ _) | (with_reducible refine Kd.C_drew ?_))); (case side2 => exact HC0.out); (case side3 => repeat (first | exact (Kd.R_reads' HO_10.out).2.2 | (with_reducible refine Kd.C_alloc ?_ _) | (with_reducible refine Kd.C_drewN ?_ _) | (with_reducible refine Kd.C_drew ?_))); (case side4 => exact (Kd.R_reads' HO_10.out).2.1); rintro e w' ⟨rfl, ⟨nd, rfl⟩⟩; refine ⟨_, rfl, ?_⟩))
        (try simp only [← hl10_2])
        go_roundg k2
        case measure => have := HK1.out; have := HK2.out; omega
        case rel => exact ⟨(x9_2), (x10_2), (x11_2), (wrap64 (x13_2 + 1)), (by first | rfl | (simp; done) | (simp [*]; done)), (by first | rfl | (simp; done) | (simp [*]; done)), H', ⟨by have := HK1.out; have := HK2.out; omega⟩, ⟨by (try simp only [hl10_2]); (with_reducible repeat (first | apply Kd.R_alloc | apply Kd.R_drewN | apply Kd.R_drew)); exact HO_9.out⟩, ⟨by (try simp only [hl10_2]); (with_reducible repeat (first | apply Kd.R_alloc | apply Kd.R_drewN | apply Kd.R_drew)); exact HO_10.out⟩, ⟨by repeat (first | (with_reducible first | exact HB.out | apply below_alloc | apply pw_below_drewN | apply below_drew1) | exact HB.out)⟩⟩
       ·rw [if_neg c15] at H
        have c15b0 : decide (t353 < 0) = false := decide_eq_false c15
        clear c15
        by_cases c16 : (wrap64 ((x9_2.length : Int) - 1)) ≥ 0
        ·rw [if_pos c16] at H
         have c16b0 : decide (0 ≤ (wrap64 ((x9_2.length : Int) - 1))) = true := decide_eq_true c16
         clear c16
         obtain ⟨ji17, hji17⟩ : ∃ j_ : Int, (wrap64 ((x9_2.length : Int) - 1)) = j_ := ⟨_, rfl⟩
         replace H : (if 0 ≤ (ji17) then (if (ji17) < (x9_2.length : Int) then (if ((rd_T203 x9_2 (ji17)).f0) = t353 then (if ((rd_T203 x9_2 (ji17)).f2) = x13_2 then (if 0 ≤ t353 then (if t353 < (x10_2.length : Int) then (spec_l5Choose.l1 k2 l0 a3 (x9_2.set ((ji17) : Int).toNat (⟨(rd_T203 x9_2 (ji17)).f0, (rd_T203 x9_2 (ji17)).f1, wrap64 (x13_2 + 1)⟩ : S203)) (x10_2.set (t353 : Int).toNat (wrap64 ((rd x10_2 t353) - 1))) (wrap64 (x11_2 - 1)) (wrap64 (x13_2 + 1))) else (none)) else (none)) else (if x9_2.length < 5864062014805 then (if 0 ≤ t353 then (if t353 < (x10_2.length : Int) then (spec_l5Choose.l1 k2 l0 a3 (x9_2 ++ [(⟨t353, x13_2, wrap64 (x13_2 + 1)⟩ : S203)]) (x10_2.set (t353 : Int).toNat (wrap64 ((rd x10_2 t353) - 1))) (wrap64 (x11_2 - 1)) (wrap64 (x13_2 + 1))) else (none)) else (none)) else (none))) else (if x9_2.length < 5864062014805 then (if 0 ≤ t353 then (if t353 < (x10_2.length : Int) then (spec_l5Choose.l1 k2 l0 a3 (x9_2 ++ [(⟨t353, x13_2, wrap64 (x13_2 + 1)⟩ : S203)]) (x10_2.set (t353 : Int).toNat (wrap64 ((rd x10_2 t353) - 1))) (wrap64 (x11_2 - 1)) (wrap64 (x13_2 + 1))) else (none)) else (none)) else (none))) else (none)) else (none)) = some r := by first | (rw [hji17] at H; exact H) | (simp only [hji17] at H ⊢; exact H)
         (try rw [hji17] at c16b0)
         (try rw [hji17] at A14)
         have hji17w : (IntKind.i64.wrap ((x9_2.length : Int) - 1)) = ji17 := (i64_w _).trans hji17
         by_cases c18 : 0 ≤ (ji17)
         ·rw [if_pos c18] at H
          have c18b0 : decide (0 ≤ (ji17)) = true := decide_eq_true c18
          clear c18
          by_cases c19 : (ji17) < (x9_2.length : Int)
          ·rw [if_pos c19] at H
           have c19b0 : decide ((ji17) < (x9_2.length : Int)) = true := decide_eq_true c19
           clear c19
           by_cases c20 : ((rd_T203 x9_2 (ji17)).f0) = t353
           ·rw [if_pos c20] at H
            have c20b0 : (((rd_T203 x9_2 (ji17)).f0) == t353) = true := beq_iff_eq.mpr c20
            have c20b1 : (((rd_T203 x9_2 (ji17)).f0) != t353) = false := bne_eq_false_iff_eq.mpr c20
            clear c20
            by_cases c21 : ((rd_T203 x9_2 (ji17)).f2) = x13_2
            ·rw [if_pos c21] at H
             have c21b0 : (((rd_T203 x9_2 (ji17)).f2) == x13_2) = true := beq_iff_eq.mpr c21
             have c21b1 : (((rd_T203 x9_2 (ji17)).f2) != x13_2) = false := bne_eq_false_iff_eq.mpr c21
             clear c21
             obtain ⟨y356, hy356⟩ : ∃ y_ : List (S203), y_ = (x9_2.set ((ji17) : Int).toNat (⟨(rd_T203 x9_2 (ji17)).f0, (rd_T203 x9_2 (ji17)).f1, wrap64 (x13_2 + 1)⟩ : S203)) := ⟨_, rfl⟩
             replace H : (if 0 ≤ t353 then (if t353 < (x10_2.length : Int) then (spec_l5Choose.l1 k2 l0 a3 y356 (x10_2.set (t353 : Int).toNat (wrap64 ((rd x10_2 t353) - 1))) (wrap64 (x11_2 - 1)) (wrap64 (x13_2 + 1))) else (none)) else (none)) = some r := by first | (rw [hy356]; with_reducible exact H) | (have H2_ := (Option.bind_some _ _).symm.trans H; rw [hy356]; with_reducible exact H2_) | (have H2_ := (Option.bind_some _ _).symm.trans H; with_reducible exact H2_) | with_reducible exact H | (rw [hy356]; exact H) | exact H
             have Ny356 := Aside0.mk hy356
             clear hy356
             by_cases c23 : 0 ≤ t353
             ·rw [if_pos c23] at H
              have c23b0 : decide (0 ≤ t353) = true := decide_eq_true c23
              clear c23
              by_cases c24 : t353 < (x10_2.length : Int)
              ·rw [if_pos c24] at H
               have c24b0 : decide (t353 < (x10_2.length : Int)) = true := decide_eq_true c24
               clear c24
               obtain ⟨y358, hy358⟩ : ∃ y_ : List Int, y_ = (x10_2.set (t353 : Int).toNat (wrap64 ((rd x10_2 t353) - 1))) := ⟨_, rfl⟩
               replace H : (spec_l5Choose.l1 k2 l0 a3 y356 y358 (wrap64 (x11_2 - 1)) (wrap64 (x13_2 + 1))) = some r := by first | (rw [hy358]; with_reducible exact H) | (have H2_ := (Option.bind_some _ _).symm.trans H; rw [hy358]; with_reducible exact H2_) | (have H2_ := (Option.bind_some _ _).symm.trans H; with_reducible exact H2_) | with_reducible exact H | (rw [hy358]; exact H) | exact H
               have Ny358 := Aside0.mk hy358
               clear hy358
               have H' := Aside0.mk H
               clear H
               go_wp2_with (first | ((with_reducible refine gate_callee (f := 251) rfl ?_); refine goesL_ (some 40) rfl rfl Try.func251 (by kernel_rfl) rfl #[.slice A0 l0.length c0, .slice Ao12 x10_2.length co12, .int .i64 x13_2, .int .i64 a3] rfl (by (try simp only [List.map_toArray, List.map_cons, List.map_nil]); first | done | rfl | (simp only [List.length_drop, List.length_take]; rfl)) ?_; (with_reducible refine (spec_l5Pick.calls k2 _ _ l0 _ _ x10_2 x13_2 a3 t353 _ ?side1 ?side2 ?side3 ?side4 A14.out).mono ?_); (case side1 => repeat (first | exact (Kd.C_below HR0.out HB.out) | (with_reducible refine Kd.C_alloc ?_ _) | (with_reducible refine Kd.C_drewN ?_ _) | (with_reducible refine Kd.C_drew ?_))); (case side2 => exact HC0.out); (case side3 => repeat (first | exact (Kd.R_reads' HO_10.out).2.2 | (with_reducible refine Kd.C_alloc ?_ _) | (with_reducible refine Kd.C_drewN ?_ _) | (with_reducible refine Kd.C_drew ?_))); (case side4 => exact (Kd.R_reads' HO_10.out).2.1); rintro e w' ⟨rfl, ⟨nd, rfl⟩⟩; refine ⟨_, rfl, ?_⟩; (try (rw [drewN_self wr]; generalize hq_ : World.drewN wr _ = wr; have n0_ : Aside0 (Kd.R (Kd.int .i64) 3 wr w.heap.size (fun _ => True) (.slice Ao12 x10_2.length co12) x10_2) := ⟨by rw [← hq_]; exact (by (with_reducible repeat (first | apply Kd.R_alloc | apply Kd.R_drewN | apply Kd.R_drew)); exact HO_10.out)⟩; have n1_ : Aside0 (Kd.R k203 203 wr w.heap.size (fun _ => True) u9 x9_2) := ⟨by rw [← hq_]; exact (by (with_reducible repeat (first | apply Kd.R_alloc | apply Kd.R_drewN | apply Kd.R_drew)); exact HO_9.out)⟩; have n2_ : Aside0 (Below w.heap.size w wr) := ⟨by rw [← hq_]; exact (by repeat (first | (with_reducible first | exact HB.out | apply below_alloc | apply pw_below_drewN | apply below_drew1) | exact HB.out))⟩; (try replace hx352_0 := cell_at hq_ hx352_0); (try replace hx25_0 := cell_at hq_ hx25_0); (try replace hf25_0 := frz_at hq_ hf25_0); (try replace hx354_0 := cell_at hq_ hx354_0); (try replace hx354_1 := cell_at hq_ hx354_1); (try replace hx354_2 := cell_at hq_ hx354_2); clear HO_10 HO_9 HB hq_; have HO_10 := n0_; have HO_9 := n1_; have HB := n2_; clear n0_ n1_ n2_)); obtain ⟨Ao26, co26, eo26⟩ := Kd.R_slice HO_9.out; subst eo26; have p354 : 0 ≤ ((ji17) : Int) := of_decide_eq_true (by first | (with_reducible assumption) | assumption); have q354 : (ji17) < (x9_2.length : Int) := of_decide_eq_true (by first | (with_reducible assumption) | assumption); obtain ⟨ad354, e354, hx354_0, hx354_1, hx354_2⟩ := at_T203 (Kd.R_reads' HO_9.out).2.2 (ji17) p354 q354; cases e354; replace p354 := eq_true p354; replace q354 := eq_true q354; have p355 : 0 ≤ ((ji17) : Int) := of_decide_eq_true (by first | (with_reducible assumption) | assumption); have q355 : (ji17) < (x9_2.length : Int) := of_decide_eq_true (by first | (with_reducible assumption) | assumption); obtain ⟨ad355, e355, hx355_0, hx355_1, hx355_2⟩ := at_T203 (Kd.R_reads' HO_9.out).2.2 (ji17) p355 q355; obtain rfl : ad354 = ad355 := (by injection e355); replace p355 := eq_true p355; replace q355 := eq_true q355; have p22 : 0 ≤ ((ji17) : Int) := of_decide_eq_true (by first | (with_reducible assumption) | assumption); have q22 : ((ji17) : Int) < ((x9_2.length : Int) : Int) := of_decide_eq_true (by first | (with_reducible assumption) | assumption); obtain ⟨go22, co22, eo22, gb22, gl22, cl22, HG22⟩ := Kd.R_form HO_9.out (by omega); (first | cases eo22 | (injection eo22 with ea_ en_ ec_; (first | subst ea_ | (injection ea_ with ea_; subst ea_)); subst ec_; clear en_)); have GB22 := Aside0.mk gb22; have GG22 := Aside0.mk HG22; clear gb22 gl22 HG22; (first | simp only [add_plain] at hx354_0 | skip); (first | simp only [add_plain] at hx354_1 | skip); (first | simp only [add_plain] at hx354_2 | skip); (first | simp only [add_plain] at hx355_0 | skip); (first | simp only [add_plain] at hx355_1 | skip); (first | simp only [add_plain] at hx355_2 | skip); obtain ⟨ce22, hcl22, hM22, hcc22, hfr22⟩ := Kd.R_elem HO_9.out z203 ((ji17) : Int) p22 q22; obtain rfl := k203_openM hM22; have hx22_0 : wr.cell? ⟨go22, ((ji17) : Int).toNat * 3, none⟩ = some (.int .i64 ((rd_T203 x9_2 (ji17)).f0)) := hcc22 0 _ rfl; have hx22_1 : wr.cell? ⟨go22, ((ji17) : Int).toNat * 3 + 1, none⟩ = some (.int .i64 ((rd_T203 x9_2 (ji17)).f1)) := hcc22 1 _ rfl; have hx22_2 : wr.cell? ⟨go22, ((ji17) : Int).toNat * 3 + 2, none⟩ = some (.int .i64 ((rd_T203 x9_2 (ji17)).f2)) := hcc22 2 _ rfl; have hf22_0 : wr.frozen? ⟨go22, ((ji17) : Int).toNat * 3, none⟩ = false := hfr22 0; have hf22_1 : wr.frozen? ⟨go22, ((ji17) : Int).toNat * 3 + 1, none⟩ = false := hfr22 1; have hf22_2 : wr.frozen? ⟨go22, ((ji17) : Int).toNat * 3 + 2, none⟩ = false := hfr22 2; clear hcl22 hcc22 hfr22; (try clear hM22); replace p22 := eq_true p22; replace q22 := eq_true q22; have HX27 := Aside0.mk (show Kd.R k203 203 wr w.heap.size (fun _ => True) (.slice (some ⟨go22, 0, none⟩) x9_2.length co26) x9_2 from (by (with_reducible repeat (first | apply Kd.R_alloc | apply Kd.R_drewN | apply Kd.R_drew)); exact HO_9.out)); obtain ⟨ce27, hcl27, hM27, hcc27, hfr27⟩ := Kd.R_elem HX27.out z203 ((ji17) : Int) (of_decide_eq_true (by first | (with_reducible assumption) | assumption)) (by have h_ : ((ji17) : Int) < ((x9_2.length : Int) : Int) := of_decide_eq_true (by first | (with_reducible assumption) | assumption); first | exact h_ | (have e_ := (Kd.R_reads' HO_9.out).1; omega) | simpa using h_); obtain rfl := k203_openM hM27; have HP27 := Kd.R_seg HX27.out ((ji17) : Int) (of_decide_eq_true (by first | (with_reducible assumption) | assumption)) (by have h_ : ((ji17) : Int) < ((x9_2.length : Int) : Int) := of_decide_eq_true (by first | (with_reducible assumption) | assumption); first | exact h_ | (have e_ := (Kd.R_reads' HO_9.out).1; omega) | simpa using h_) (seg := [.int .i64 (wrap64 (x13_2 + 1))]) (j := 2) hcl27 hcc27 (show 3 ≤ 3 from by decide) (x' := (⟨(rd_T203 x9_2 (ji17)).f0, (rd_T203 x9_2 (ji17)).f1, wrap64 (x13_2 + 1)⟩ : S203)) (k203_mkM _ _ _ (⟨(rd_T203 x9_2 (ji17)).f0, (rd_T203 x9_2 (ji17)).f1, wrap64 (x13_2 + 1)⟩ : S203) ) (fun _ hk => hk); have hx27_2 := hcc27 2 _ rfl; (try simp only [show (k203).sz = 3 from rfl, Nat.mul_one, Nat.add_zero] at hx27_2); have hf27_2 := hfr27 2; (try simp only [show (k203).sz = 3 from rfl, Nat.mul_one, Nat.add_zero] at hf27_2); clear hcl27 hcc27 hfr27; (try clear hM27)) | ((with_reducible refine gate_store (t := 3) (p := 71) rfl ?_); refine store_event (t := 3) (p := 71) (v := ?vo_w28) (w1 := (wr.setCell ⟨go22, ((ji17) : Int).toNat * 3 + 2, none⟩ (.int .i64 (wrap64 (x13_2 + 1))))) ?hg ?ho ?hn ?hr ?_; (case ho => rfl); (case hg => rfl); (case hn => rfl); (case hr => first | (go_simp; done) | (go_simp; rfl)); intro w28 hw; have hg : wr.grownBy w28 (some go22) := (by rw [hw]; exact HP27.2); have hp_ : Kd.R k203 203 w28 w.heap.size (fun _ => True) (.slice (some ⟨go22, 0, none⟩) x9_2.length co26) y356 := (by rw [hw, Ny356.out]; exact HP27.1); clear HP27; have n0_ := Aside0.mk (hp_); have n1_ := Aside0.mk (Kd.R_over' (v := (.slice (some ⟨go22, 0, none⟩) x9_2.length co26)) (by (with_reducible repeat (first | apply Kd.R_alloc | apply Kd.R_drewN | apply Kd.R_drew)); exact HO_10.out) (Kd.R_typed HO_9.out) (by decide) hg); have n2_ := Aside0.mk ((by rw [hw]; exact below_set (HB.out) GB22.out : Below w.heap.size w w28)); clear HO_9; clear HO_10; clear HB; have HO_9 := n0_; have HO_10 := n1_; have HB := n2_; clear n0_ n1_ n2_; clear hg hw hp_; have p357 : 0 ≤ (t353 : Int) := of_decide_eq_true (by first | (with_reducible assumption) | assumption); have q357 : t353 < (x10_2.length : Int) := of_decide_eq_true (by first | (with_reducible assumption) | assumption); obtain ⟨ad357, e357, hx357_0⟩ := Kd.at_int (Kd.R_reads' HO_10.out).2.2 t353 p357 q357; cases e357; replace p357 := eq_true p357; replace q357 := eq_true q357; have p25 : 0 ≤ (t353 : Int) := of_decide_eq_true (by first | (with_reducible assumption) | assumption); have q25 : (t353 : Int) < ((x10_2.length : Int) : Int) := of_decide_eq_true (by first | (with_reducible assumption) | assumption); obtain ⟨go25, co25, eo25, gb25, gl25, cl25, HG25⟩ := Kd.R_form HO_10.out (by omega); (first | cases eo25 | (injection eo25 with ea_ en_ ec_; (first | subst ea_ | (injection ea_ with ea_; subst ea_)); subst ec_; clear en_)); have GB25 := Aside0.mk gb25; have GG25 := Aside0.mk HG25; clear gb25 gl25 HG25; (first | simp only [add_plain] at hx357_0 | skip); obtain ⟨hx25_0, hf25_0⟩ := Kd.R_celln 0 HO_10.out (t353 : Int) p25 q25; replace p25 := eq_true p25; replace q25 := eq_true q25; obtain ⟨hy29_, hz29_⟩ := Kd.R_celln 0 HO_10.out (t353 : Int) (of_decide_eq_true (by first | (with_reducible assumption) | assumption)) (of_decide_eq_true (by first | (with_reducible assumption) | assumption)); have HP29 := Kd.R_putg HO_10.out (t353 : Int) (wrap64 ((rd x10_2 t353) - 1))) | ((with_reducible refine gate_store (t := 3) (p := 87) rfl ?_); refine store_event (t := 3) (p := 87) (v := ?vo_w30) (w1 := (w28.setCell ⟨go25, (t353 : Int).toNat, none⟩ (.int .i64 (wrap64 ((rd x10_2 t353) - 1))))) ?hg ?ho ?hn ?hr ?_; (case ho => rfl); (case hg => rfl); (case hn => rfl); (case hr => first | (go_simp; done) | (go_simp; rfl)); intro w30 hw; have hg : w28.grownBy w30 (some go25) := (by rw [hw]; exact HP29.2); have hp_ : Kd.R (Kd.int .i64) 3 w30 w.heap.size (fun _ => True) (.slice (some ⟨go25, 0, none⟩) x10_2.length co12) y358 := (by rw [hw, Ny358.out]; exact HP29.1); clear HP29; have n0_ := Aside0.mk (Kd.R_over' (v := (.slice (some ⟨go25, 0, none⟩) x10_2.length co12)) (by (with_reducible repeat (first | apply Kd.R_alloc | apply Kd.R_drewN | apply Kd.R_drew)); exact HO_9.out) (Kd.R_typed HO_10.out) (by decide) hg); have n1_ := Aside0.mk (hp_); have n2_ := Aside0.mk ((by rw [hw]; exact below_set (HB.out) GB25.out : Below w.heap.size w w30)); clear HO_9; clear HO_10; clear HB; have HO_9 := n0_; have HO_10 := n1_; have HB := n2_; clear n0_ n1_ n2_; clear hg hw hp_))
               (try simp only [← hl10_2])
               go_roundg k2
               case measure => have := HK1.out; have := HK2.out; omega
               case rel => exact ⟨(y356), (y358), (wrap64 (x11_2 - 1)), (wrap64 (x13_2 + 1)), (by first | rfl | (simp; done) | (simp [*]; done)), (by first | rfl | (simp; done) | (simp [*]; done)), H', ⟨by have := HK1.out; have := HK2.out; omega⟩, ⟨by (try simp only [hl10_2]); (with_reducible repeat (first | apply Kd.R_alloc | apply Kd.R_drewN | apply Kd.R_drew)); exact HO_9.out⟩, ⟨by (try simp only [hl10_2]); (with_reducible repeat (first | apply Kd.R_alloc | apply Kd.R_drewN | apply Kd.R_drew)); exact HO_10.out⟩, ⟨by repeat (first | (with_reducible first | exact HB.out | apply below_alloc | apply pw_below_drewN | apply below_drew1) | exact HB.out)⟩⟩
              ·rw [if_neg c24] at H
               exact absurd H (by simp)
             ·rw [if_neg c23] at H
              exact absurd H (by simp)
            ·rw [if_neg c21] at H
             have c21b0 : (((rd_T203 x9_2 (ji17)).f2) == x13_2) = false := beq_eq_false_iff_ne.mpr c21
             have c21b1 : (((rd_T203 x9_2 (ji17)).f2) != x13_2) = true := bne_iff_ne.mpr c21
             by_cases c31 : x9_2.length < 5864062014805
             ·rw [if_pos c31] at H
              have LMc31 := Aside0.mk c31
              clear c31
              obtain ⟨y359, hy359⟩ : ∃ y_ : List (S203), y_ = (x9_2 ++ [(⟨t353, x13_2, wrap64 (x13_2 + 1)⟩ : S203)]) := ⟨_, rfl⟩
              replace H : (if 0 ≤ t353 then (if t353 < (x10_2.length : Int) then (spec_l5Choose.l1 k2 l0 a3 y359 (x10_2.set (t353 : Int).toNat (wrap64 ((rd x10_2 t353) - 1))) (wrap64 (x11_2 - 1)) (wrap64 (x13_2 + 1))) else (none)) else (none)) = some r := by first | (rw [hy359]; with_reducible exact H) | (have H2_ := (Option.bind_some _ _).symm.trans H; rw [hy359]; with_reducible exact H2_) | (have H2_ := (Option.bind_some _ _).symm.trans H; with_reducible exact H2_) | with_reducible exact H | (rw [hy359]; exact H) | exact H
              have Ny359 := Aside0.mk hy359
              clear hy359
              by_cases c32 : 0 ≤ t353
              ·rw [if_pos c32] at H
               have c32b0 : decide (0 ≤ t353) = true := decide_eq_true c32
               clear c32
               by_cases c33 : t353 < (x10_2.length : Int)
               ·rw [if_pos c33] at H
                have c33b0 : decide (t353 < (x10_2.length : Int)) = true := decide_eq_true c33
                clear c33
                obtain ⟨y363, hy363⟩ : ∃ y_ : List Int, y_ = (x10_2.set (t353 : Int).toNat (wrap64 ((rd x10_2 t353) - 1))) := ⟨_, rfl⟩
                replace H : (spec_l5Choose.l1 k2 l0 a3 y359 y363 (wrap64 (x11_2 - 1)) (wrap64 (x13_2 + 1))) = some r := by first | (rw [hy363]; with_reducible exact H) | (have H2_ := (Option.bind_some _ _).symm.trans H; rw [hy363]; with_reducible exact H2_) | (have H2_ := (Option.bind_some _ _).symm.trans H; with_reducible exact H2_) | with_reducible exact H | (rw [hy363]; exact H) | exact H
                have Ny363 := Aside0.mk hy363
                clear hy363
                have H' := Aside0.mk H
                clear H
                go_wp2_with (first | ((with_reducible refine gate_callee (f := 251) rfl ?_); refine goesL_ (some 40) rfl rfl Try.func251 (by kernel_rfl) rfl #[.slice A0 l0.length c0, .slice Ao12 x10_2.length co12, .int .i64 x13_2, .int .i64 a3] rfl (by (try simp only [List.map_toArray, List.map_cons, List.map_nil]); first | done | rfl | (simp only [List.length_drop, List.length_take]; rfl)) ?_; (with_reducible refine (spec_l5Pick.calls k2 _ _ l0 _ _ x10_2 x13_2 a3 t353 _ ?side1 ?side2 ?side3 ?side4 A14.out).mono ?_); (case side1 => repeat (first | exact (Kd.C_below HR0.out HB.out) | (with_reducible refine Kd.C_alloc ?_ _) | (with_reducible refine Kd.C_drewN ?_ _) | (with_reducible refine Kd.C_drew ?_))); (case side2 => exact HC0.out); (case side3 => repeat (first | exact (Kd.R_reads' HO_10.out).2.2 | (with_reducible refine Kd.C_alloc ?_ _) | (with_reducible refine Kd.C_drewN ?_ _) | (with_reducible refine Kd.C_drew ?_))); (case side4 => exact (Kd.R_reads' HO_10.out).2.1); rintro e w' ⟨rfl, ⟨nd, rfl⟩⟩; refine ⟨_, rfl, ?_⟩; (try (rw [drewN_self wr]; generalize hq_ : World.drewN wr _ = wr; have n0_ : Aside0 (Kd.R (Kd.int .i64) 3 wr w.heap.size (fun _ => True) (.slice Ao12 x10_2.length co12) x10_2) := ⟨by rw [← hq_]; exact (by (with_reducible repeat (first | apply Kd.R_alloc | apply Kd.R_drewN | apply Kd.R_drew)); exact HO_10.out)⟩; have n1_ : Aside0 (Kd.R k203 203 wr w.heap.size (fun _ => True) u9 x9_2) := ⟨by rw [← hq_]; exact (by (with_reducible repeat (first | apply Kd.R_alloc | apply Kd.R_drewN | apply Kd.R_drew)); exact HO_9.out)⟩; have n2_ : Aside0 (Below w.heap.size w wr) := ⟨by rw [← hq_]; exact (by repeat (first | (with_reducible first | exact HB.out | apply below_alloc | apply pw_below_drewN | apply below_drew1) | exact HB.out))⟩; (try replace hx352_0 := cell_at hq_ hx352_0); (try replace hx25_0 := cell_at hq_ hx25_0); (try replace hf25_0 := frz_at hq_ hf25_0); (try replace hx354_0 := cell_at hq_ hx354_0); (try replace hx354_1 := cell_at hq_ hx354_1); (try replace hx354_2 := cell_at hq_ hx354_2); (try replace hx34_0 := cell_at hq_ hx34_0); (try replace hf34_0 := frz_at hq_ hf34_0); clear HO_10 HO_9 HB hq_; have HO_10 := n0_; have HO_9 := n1_; have HB := n2_; clear n0_ n1_ n2_)); obtain ⟨Ao35, co35, eo35⟩ := Kd.R_slice HO_9.out; subst eo35; have p354 : 0 ≤ ((ji17) : Int) := of_decide_eq_true (by first | (with_reducible assumption) | assumption); have q354 : (ji17) < (x9_2.length : Int) := of_decide_eq_true (by first | (with_reducible assumption) | assumption); obtain ⟨ad354, e354, hx354_0, hx354_1, hx354_2⟩ := at_T203 (Kd.R_reads' HO_9.out).2.2 (ji17) p354 q354; cases e354; replace p354 := eq_true p354; replace q354 := eq_true q354; have p355 : 0 ≤ ((ji17) : Int) := of_decide_eq_true (by first | (with_reducible assumption) | assumption); have q355 : (ji17) < (x9_2.length : Int) := of_decide_eq_true (by first | (with_reducible assumption) | assumption); obtain ⟨ad355, e355, hx355_0, hx355_1, hx355_2⟩ := at_T203 (Kd.R_reads' HO_9.out).2.2 (ji17) p355 q355; obtain rfl : ad354 = ad355 := (by injection e355); replace p355 := eq_true p355; replace q355 := eq_true q355) | ((with_reducible refine gate_builtin (b := .append) (xs := #[.tmp 72, .tmp 78]) rfl ?_); at_builtin; refine Kd.R_append k203 (w0 := w) w.heap.size rfl (.tmp 72) (.tmp 78) 200 203 (.agg #[(.int .i64 0), (.int .i64 0), (.int .i64 0)]) 24 rfl Try.underlying200 info203 rfl (by decide) (by omega) (.slice (some ad354) x9_2.length co35) x9_2 (⟨t353, x13_2, wrap64 (x13_2 + 1)⟩ : S203) [.int .i64 t353, .int .i64 x13_2, .int .i64 (wrap64 (x13_2 + 1))] (fun _ => True) (fun _ => False) rfl rfl ?aP (fun _ hk => hk.elim) ?aF ?aO ?aB ?aS ?aL ?_; (case aP => exact k203_mkM _ _ _ (⟨t353, x13_2, wrap64 (x13_2 + 1)⟩ : S203)); (case aB => exact (by repeat (first | (with_reducible first | exact HB.out | apply below_alloc | apply pw_below_drewN | apply below_drew1) | exact HB.out))); (case aF => exact (fun _ _ => trivial)); (case aO => exact (by (with_reducible repeat (first | apply Kd.R_alloc | apply Kd.R_drewN | apply Kd.R_drew)); exact HO_9.out)); (case aS => exact (below_size (by repeat (first | (with_reducible first | exact HB.out | apply below_alloc | apply pw_below_drewN | apply below_drew1) | exact HB.out)))); (case aL => have := LMc31.out; omega); intro v360 w36 ho hb hg hat; rw [← Ny359.out] at ho; have n0_ := Aside0.mk (Kd.R_over' (by (with_reducible repeat (first | apply Kd.R_alloc | apply Kd.R_drewN | apply Kd.R_drew)); exact HO_10.out) (Kd.R_typed (by (with_reducible repeat (first | apply Kd.R_alloc | apply Kd.R_drewN | apply Kd.R_drew)); exact HO_9.out)) (by decide) hg); have n1_ := Aside0.mk (hb); have n2_ := Aside0.mk (ho); clear HO_10; clear HB; clear HO_9; have HO_10 := n0_; have HB := n1_; have HO361 := n2_; clear n0_ n1_ n2_; clear ho hb hg hat; have p362 : 0 ≤ (t353 : Int) := of_decide_eq_true (by first | (with_reducible assumption) | assumption); have q362 : t353 < (x10_2.length : Int) := of_decide_eq_true (by first | (with_reducible assumption) | assumption); obtain ⟨ad362, e362, hx362_0⟩ := Kd.at_int (Kd.R_reads' HO_10.out).2.2 t353 p362 q362; cases e362; replace p362 := eq_true p362; replace q362 := eq_true q362; have p34 : 0 ≤ (t353 : Int) := of_decide_eq_true (by first | (with_reducible assumption) | assumption); have q34 : (t353 : Int) < ((x10_2.length : Int) : Int) := of_decide_eq_true (by first | (with_reducible assumption) | assumption); obtain ⟨go34, co34, eo34, gb34, gl34, cl34, HG34⟩ := Kd.R_form HO_10.out (by omega); (first | cases eo34 | (injection eo34 with ea_ en_ ec_; (first | subst ea_ | (injection ea_ with ea_; subst ea_)); subst ec_; clear en_)); have GB34 := Aside0.mk gb34; have GG34 := Aside0.mk HG34; clear gb34 gl34 HG34; (first | simp only [add_plain] at hx362_0 | skip); obtain ⟨hx34_0, hf34_0⟩ := Kd.R_celln 0 HO_10.out (t353 : Int) p34 q34; replace p34 := eq_true p34; replace q34 := eq_true q34; obtain ⟨hy37_, hz37_⟩ := Kd.R_celln 0 HO_10.out (t353 : Int) (of_decide_eq_true (by first | (with_reducible assumption) | assumption)) (of_decide_eq_true (by first | (with_reducible assumption) | assumption)); have HP37 := Kd.R_putg HO_10.out (t353 : Int) (wrap64 ((rd x10_2 t353) - 1))) | ((with_reducible refine gate_store (t := 3) (p := 87) rfl ?_); refine store_event (t := 3) (p := 87) (v := ?vo_w38) (w1 := (w36.setCell ⟨go34, (t353 : Int).toNat, none⟩ (.int .i64 (wrap64 ((rd x10_2 t353) - 1))))) ?hg ?ho ?hn ?hr ?_; (case ho => rfl); (case hg => rfl); (case hn => rfl); (case hr => first | (go_simp; done) | (go_simp; rfl)); intro w38 hw; have hg : w36.grownBy w38 (some go34) := (by rw [hw]; exact HP37.2); have hp_ : Kd.R (Kd.int .i64) 3 w38 w.heap.size (fun _ => True) (.slice (some ⟨go34, 0, none⟩) x10_2.length co12) y363 := (by rw [hw, Ny363.out]; exact HP37.1); clear HP37; have n0_ := Aside0.mk (hp_); have n1_ := Aside0.mk (Kd.R_over' (v := (.slice (some ⟨go34, 0, none⟩) x10_2.length co12)) (by (with_reducible repeat (first | apply Kd.R_alloc | apply Kd.R_drewN | apply Kd.R_drew)); exact HO361.out) (Kd.R_typed HO_10.out) (by decide) hg); have n2_ := Aside0.mk ((by rw [hw]; exact below_set (HB.out) GB34.out : Below w.heap.size w w38)); clear HO_10; clear HO361; clear HB; have HO_10 := n0_; have HO361 := n1_; have HB := n2_; clear n0_ n1_ n2_; clear hg hw hp_))
                (try simp only [← hl10_2])
                go_roundg k2
                case measure => have := HK1.out; have := HK2.out; omega
                case rel => exact ⟨(y359), (y363), (wrap64 (x11_2 - 1)), (wrap64 (x13_2 + 1)), (by first | rfl | (simp; done) | (simp [*]; done)), (by first | rfl | (simp; done) | (simp [*]; done)), H', ⟨by have := HK1.out; have := HK2.out; omega⟩, ⟨by (try simp only [hl10_2]); (with_reducible repeat (first | apply Kd.R_alloc | apply Kd.R_drewN | apply Kd.R_drew)); exact HO361.out⟩, ⟨by (try simp only [hl10_2]); (with_reducible repeat (first | apply Kd.R_alloc | apply Kd.R_drewN | apply Kd.R_drew)); exact HO_10.out⟩, ⟨by repeat (first | (with_reducible first | exact HB.out | apply below_alloc | apply pw_below_drewN | apply below_drew1) | exact HB.out)⟩⟩
               ·rw [if_neg c33] at H
                exact absurd H (by simp)
              ·rw [if_neg c32] at H
               exact absurd H (by simp)
             ·rw [if_neg c31] at H
              exact absurd H (by simp)
           ·rw [if_neg c20] at H
            have c20b0 : (((rd_T203 x9_2 (ji17)).f0) == t353) = false := beq_eq_false_iff_ne.mpr c20
            have c20b1 : (((rd_T203 x9_2 (ji17)).f0) != t353) = true := bne_iff_ne.mpr c20
            by_cases c39 : x9_2.length < 5864062014805
            ·rw [if_pos c39] at H
             have LMc39 := Aside0.mk c39
             clear c39
             obtain ⟨y364, hy364⟩ : ∃ y_ : List (S203), y_ = (x9_2 ++ [(⟨t353, x13_2, wrap64 (x13_2 + 1)⟩ : S203)]) := ⟨_, rfl⟩
             replace H : (if 0 ≤ t353 then (if t353 < (x10_2.length : Int) then (spec_l5Choose.l1 k2 l0 a3 y364 (x10_2.set (t353 : Int).toNat (wrap64 ((rd x10_2 t353) - 1))) (wrap64 (x11_2 - 1)) (wrap64 (x13_2 + 1))) else (none)) else (none)) = some r := by first | (rw [hy364]; with_reducible exact H) | (have H2_ := (Option.bind_some _ _).symm.trans H; rw [hy364]; with_reducible exact H2_) | (have H2_ := (Option.bind_some _ _).symm.trans H; with_reducible exact H2_) | with_reducible exact H | (rw [hy364]; exact H) | exact H
             have Ny364 := Aside0.mk hy364
             clear hy364
             by_cases c40 : 0 ≤ t353
             ·rw [if_pos c40] at H
              have c40b0 : decide (0 ≤ t353) = true := decide_eq_true c40
              clear c40
              by_cases c41 : t353 < (x10_2.length : Int)
              ·rw [if_pos c41] at H
               have c41b0 : decide (t353 < (x10_2.length : Int)) = true := decide_eq_true c41
               clear c41
               obtain ⟨y368, hy368⟩ : ∃ y_ : List Int, y_ = (x10_2.set (t353 : Int).toNat (wrap64 ((rd x10_2 t353) - 1))) := ⟨_, rfl⟩
               replace H : (spec_l5Choose.l1 k2 l0 a3 y364 y368 (wrap64 (x11_2 - 1)) (wrap64 (x13_2 + 1))) = some r := by first | (rw [hy368]; with_reducible exact H) | (have H2_ := (Option.bind_some _ _).symm.trans H; rw [hy368]; with_reducible exact H2_) | (have H2_ := (Option.bind_some _ _).symm.trans H; with_reducible exact H2_) | with_reducible exact H | (rw [hy368]; exact H) | exact H
               have Ny368 := Aside0.mk hy368
               clear hy368
               have H' := Aside0.mk H
               clear H
               go_wp2_with (first | ((with_reducible refine gate_callee (f := 251) rfl ?_); refine goesL_ (some 40) rfl rfl Try.func251 (by kernel_rfl) rfl #[.slice A0 l0.length c0, .slice Ao12 x10_2.length co12, .int .i64 x13_2, .int .i64 a3] rfl (by (try simp only [List.map_toArray, List.map_cons, List.map_nil]); first | done | rfl | (simp only [List.length_drop, List.length_take]; rfl)) ?_; (with_reducible refine (spec_l5Pick.calls k2 _ _ l0 _ _ x10_2 x13_2 a3 t353 _ ?side1 ?side2 ?side3 ?side4 A14.out).mono ?_); (case side1 => repeat (first | exact (Kd.C_below HR0.out HB.out) | (with_reducible refine Kd.C_alloc ?_ _) | (with_reducible refine Kd.C_drewN ?_ _) | (with_reducible refine Kd.C_drew ?_))); (case side2 => exact HC0.out); (case side3 => repeat (first | exact (Kd.R_reads' HO_10.out).2.2 | (with_reducible refine Kd.C_alloc ?_ _) | (with_reducible refine Kd.C_drewN ?_ _) | (with_reducible refine Kd.C_drew ?_))); (case side4 => exact (Kd.R_reads' HO_10.out).2.1); rintro e w' ⟨rfl, ⟨nd, rfl⟩⟩; refine ⟨_, rfl, ?_⟩; (try (rw [drewN_self wr]; generalize hq_ : World.drewN wr _ = wr; have n0_ : Aside0 (Kd.R (Kd.int .i64) 3 wr w.heap.size (fun _ => True) (.slice Ao12 x10_2.length co12) x10_2) := ⟨by rw [← hq_]; exact (by (with_reducible repeat (first | apply Kd.R_alloc | apply Kd.R_drewN | apply Kd.R_drew)); exact HO_10.out)⟩; have n1_ : Aside0 (Kd.R k203 203 wr w.heap.size (fun _ => True) u9 x9_2) := ⟨by rw [← hq_]; exact (by (with_reducible repeat (first | apply Kd.R_alloc | apply Kd.R_drewN | apply Kd.R_drew)); exact HO_9.out)⟩; have n2_ : Aside0 (Below w.heap.size w wr) := ⟨by rw [← hq_]; exact (by repeat (first | (with_reducible first | exact HB.out | apply below_alloc | apply pw_below_drewN | apply below_drew1) | exact HB.out))⟩; (try replace hx352_0 := cell_at hq_ hx352_0); (try replace hx25_0 := cell_at hq_ hx25_0); (try replace hf25_0 := frz_at hq_ hf25_0); (try replace hx354_0 := cell_at hq_ hx354_0); (try replace hx354_1 := cell_at hq_ hx354_1); (try replace hx354_2 := cell_at hq_ hx354_2); (try replace hx34_0 := cell_at hq_ hx34_0); (try replace hf34_0 := frz_at hq_ hf34_0); (try replace hx42_0 := cell_at hq_ hx42_0); (try replace hf42_0 := frz_at hq_ hf42_0); clear HO_10 HO_9 HB hq_; have HO_10 := n0_; have HO_9 := n1_; have HB := n2_; clear n0_ n1_ n2_)); obtain ⟨Ao43, co43, eo43⟩ := Kd.R_slice HO_9.out; subst eo43; have p354 : 0 ≤ ((ji17) : Int) := of_decide_eq_true (by first | (with_reducible assumption) | assumption); have q354 : (ji17) < (x9_2.length : Int) := of_decide_eq_true (by first | (with_reducible assumption) | assumption); obtain ⟨ad354, e354, hx354_0, hx354_1, hx354_2⟩ := at_T203 (Kd.R_reads' HO_9.out).2.2 (ji17) p354 q354; cases e354; replace p354 := eq_true p354; replace q354 := eq_true q354) | ((with_reducible refine gate_builtin (b := .append) (xs := #[.tmp 72, .tmp 78]) rfl ?_); at_builtin; refine Kd.R_append k203 (w0 := w) w.heap.size rfl (.tmp 72) (.tmp 78) 200 203 (.agg #[(.int .i64 0), (.int .i64 0), (.int .i64 0)]) 24 rfl Try.underlying200 info203 rfl (by decide) (by omega) (.slice (some ad354) x9_2.length co43) x9_2 (⟨t353, x13_2, wrap64 (x13_2 + 1)⟩ : S203) [.int .i64 t353, .int .i64 x13_2, .int .i64 (wrap64 (x13_2 + 1))] (fun _ => True) (fun _ => False) rfl rfl ?aP (fun _ hk => hk.elim) ?aF ?aO ?aB ?aS ?aL ?_; (case aP => exact k203_mkM _ _ _ (⟨t353, x13_2, wrap64 (x13_2 + 1)⟩ : S203)); (case aB => exact (by repeat (first | (with_reducible first | exact HB.out | apply below_alloc | apply pw_below_drewN | apply below_drew1) | exact HB.out))); (case aF => exact (fun _ _ => trivial)); (case aO => exact (by (with_reducible repeat (first | apply Kd.R_alloc | apply Kd.R_drewN | apply Kd.R_drew)); exact HO_9.out)); (case aS => exact (below_size (by repeat (first | (with_reducible first | exact HB.out | apply below_alloc | apply pw_below_drewN | apply below_drew1) | exact HB.out)))); (case aL => have := LMc39.out; omega); intro v365 w44 ho hb hg hat; rw [← Ny364.out] at ho; have n0_ := Aside0.mk (Kd.R_over' (by (with_reducible repeat (first | apply Kd.R_alloc | apply Kd.R_drewN | apply Kd.R_drew)); exact HO_10.out) (Kd.R_typed (by (with_reducible repeat (first | apply Kd.R_alloc | apply Kd.R_drewN | apply Kd.R_drew)); exact HO_9.out)) (by decide) hg); have n1_ := Aside0.mk (hb); have n2_ := Aside0.mk (ho); clear HO_10; clear HB; clear HO_9; have HO_10 := n0_; have HB := n1_; have HO366 := n2_; clear n0_ n1_ n2_; clear ho hb hg hat; have p367 : 0 ≤ (t353 : Int) := of_decide_eq_true (by first | (with_reducible assumption) | assumption); have q367 : t353 < (x10_2.length : Int) := of_decide_eq_true (by first | (with_reducible assumption) | assumption); obtain ⟨ad367, e367, hx367_0⟩ := Kd.at_int (Kd.R_reads' HO_10.out).2.2 t353 p367 q367; cases e367; replace p367 := eq_true p367; replace q367 := eq_true q367; have p42 : 0 ≤ (t353 : Int) := of_decide_eq_true (by first | (with_reducible assumption) | assumption); have q42 : (t353 : Int) < ((x10_2.length : Int) : Int) := of_decide_eq_true (by first | (with_reducible assumption) | assumption); obtain ⟨go42, co42, eo42, gb42, gl42, cl42, HG42⟩ := Kd.R_form HO_10.out (by omega); (first | cases eo42 | (injection eo42 with ea_ en_ ec_; (first | subst ea_ | (injection ea_ with ea_; subst ea_)); subst ec_; clear en_)); have GB42 := Aside0.mk gb42; have GG42 := Aside0.mk HG42; clear gb42 gl42 HG42; (first | simp only [add_plain] at hx367_0 | skip); obtain ⟨hx42_0, hf42_0⟩ := Kd.R_celln 0 HO_10.out (t353 : Int) p42 q42; replace p42 := eq_true p42; replace q42 := eq_true q42; obtain ⟨hy45_, hz45_⟩ := Kd.R_celln 0 HO_10.out (t353 : Int) (of_decide_eq_true (by first | (with_reducible assumption) | assumption)) (of_decide_eq_true (by first | (with_reducible assumption) | assumption)); have HP45 := Kd.R_putg HO_10.out (t353 : Int) (wrap64 ((rd x10_2 t353) - 1))) | ((with_reducible refine gate_store (t := 3) (p := 87) rfl ?_); refine store_event (t := 3) (p := 87) (v := ?vo_w46) (w1 := (w44.setCell ⟨go42, (t353 : Int).toNat, none⟩ (.int .i64 (wrap64 ((rd x10_2 t353) - 1))))) ?hg ?ho ?hn ?hr ?_; (case ho => rfl); (case hg => rfl); (case hn => rfl); (case hr => first | (go_simp; done) | (go_simp; rfl)); intro w46 hw; have hg : w44.grownBy w46 (some go42) := (by rw [hw]; exact HP45.2); have hp_ : Kd.R (Kd.int .i64) 3 w46 w.heap.size (fun _ => True) (.slice (some ⟨go42, 0, none⟩) x10_2.length co12) y368 := (by rw [hw, Ny368.out]; exact HP45.1); clear HP45; have n0_ := Aside0.mk (hp_); have n1_ := Aside0.mk (Kd.R_over' (v := (.slice (some ⟨go42, 0, none⟩) x10_2.length co12)) (by (with_reducible repeat (first | apply Kd.R_alloc | apply Kd.R_drewN | apply Kd.R_drew)); exact HO366.out) (Kd.R_typed HO_10.out) (by decide) hg); have n2_ := Aside0.mk ((by rw [hw]; exact below_set (HB.out) GB42.out : Below w.heap.size w w46)); clear HO_10; clear HO366; clear HB; have HO_10 := n0_; have HO366 := n1_; have HB := n2_; clear n0_ n1_ n2_; clear hg hw hp_))
               (try simp only [← hl10_2])
               go_roundg k2
               case measure => have := HK1.out; have := HK2.out; omega
               case rel => exact ⟨(y364), (y368), (wrap64 (x11_2 - 1)), (wrap64 (x13_2 + 1)), (by first | rfl | (simp; done) | (simp [*]; done)), (by first | rfl | (simp; done) | (simp [*]; done)), H', ⟨by have := HK1.out; have := HK2.out; omega⟩, ⟨by (try simp only [hl10_2]); (with_reducible repeat (first | apply Kd.R_alloc | apply Kd.R_drewN | apply Kd.R_drew)); exact HO366.out⟩, ⟨by (try simp only [hl10_2]); (with_reducible repeat (first | apply Kd.R_alloc | apply Kd.R_drewN | apply Kd.R_drew)); exact HO_10.out⟩, ⟨by repeat (first | (with_reducible first | exact HB.out | apply below_alloc | apply pw_below_drewN | apply below_drew1) | exact HB.out)⟩⟩
              ·rw [if_neg c41] at H
               exact absurd H (by simp)
             ·rw [if_neg c40] at H
              exact absurd H (by simp)
            ·rw [if_neg c39] at H
             exact absurd H (by simp)
          ·rw [if_neg c19] at H
           exact absurd H (by simp)
         ·rw [if_neg c18] at H
          exact absurd H (by simp)
        ·rw [if_neg c16] at H
         have c16b0 : decide (0 ≤ (wrap64 ((x9_2.length : Int) - 1))) = false := decide_eq_false c16
         clear c16
         by_cases c47 : x9_2.length < 5864062014805
         ·rw [if_pos c47] at H
          have LMc47 := Aside0.mk c47
          clear c47
          obtain ⟨y369, hy369⟩ : ∃ y_ : List (S203), y_ = (x9_2 ++ [(⟨t353, x13_2, wrap64 (x13_2 + 1)⟩ : S203)]) := ⟨_, rfl⟩
          replace H : (if 0 ≤ t353 then (if t353 < (x10_2.length : Int) then (spec_l5Choose.l1 k2 l0 a3 y369 (x10_2.set (t353 : Int).toNat (wrap64 ((rd x10_2 t353) - 1))) (wrap64 (x11_2 - 1)) (wrap64 (x13_2 + 1))) else (none)) else (none)) = some r := by first | (rw [hy369]; with_reducible exact H) | (have H2_ := (Option.bind_some _ _).symm.trans H; rw [hy369]; with_reducible exact H2_) | (have H2_ := (Option.bind_some _ _).symm.trans H; with_reducible exact H2_) | with_reducible exact H | (rw [hy369]; exact H) | exact H
          have Ny369 := Aside0.mk hy369
          clear hy369
          by_cases c48 : 0 ≤ t353
          ·rw [if_pos c48] at H
           have c48b0 : decide (0 ≤ t353) = true := decide_eq_true c48
           clear c48
           by_cases c49 : t353 < (x10_2.length : Int)
           ·rw [if_pos c49] at H
            have c49b0 : decide (t353 < (x10_2.length : Int)) = true := decide_eq_true c49
            clear c49
            obtain ⟨y373, hy373⟩ : ∃ y_ : List Int, y_ = (x10_2.set (t353 : Int).toNat (wrap64 ((rd x10_2 t353) - 1))) := ⟨_, rfl⟩
            replace H : (spec_l5Choose.l1 k2 l0 a3 y369 y373 (wrap64 (x11_2 - 1)) (wrap64 (x13_2 + 1))) = some r := by first | (rw [hy373]; with_reducible exact H) | (have H2_ := (Option.bind_some _ _).symm.trans H; rw [hy373]; with_reducible exact H2_) | (have H2_ := (Option.bind_some _ _).symm.trans H; with_reducible exact H2_) | with_reducible exact H | (rw [hy373]; exact H) | exact H
            have Ny373 := Aside0.mk hy373
            clear hy373
            have H' := Aside0.mk H
            clear H
            go_wp2_with (first | ((with_reducible refine gate_callee (f := 251) rfl ?_); refine goesL_ (some 40) rfl rfl Try.func251 (by kernel_rfl) rfl #[.slice A0 l0.length c0, .slice Ao12 x10_2.length co12, .int .i64 x13_2, .int .i64 a3] rfl (by (try simp only [List.map_toArray, List.map_cons, List.map_nil]); first | done | rfl | (simp only [List.length_drop, List.length_take]; rfl)) ?_; (with_reducible refine (spec_l5Pick.calls k2 _ _ l0 _ _ x10_2 x13_2 a3 t353 _ ?side1 ?side2 ?side3 ?side4 A14.out).mono ?_); (case side1 => repeat (first | exact (Kd.C_below HR0.out HB.out) | (with_reducible refine Kd.C_alloc ?_ _) | (with_reducible refine Kd.C_drewN ?_ _) | (with_reducible refine Kd.C_drew ?_))); (case side2 => exact HC0.out); (case side3 => repeat (first | exact (Kd.R_reads' HO_10.out).2.2 | (with_reducible refine Kd.C_alloc ?_ _) | (with_reducible refine Kd.C_drewN ?_ _) | (with_reducible refine Kd.C_drew ?_))); (case side4 => exact (Kd.R_reads' HO_10.out).2.1); rintro e w' ⟨rfl, ⟨nd, rfl⟩⟩; refine ⟨_, rfl, ?_⟩; (try (rw [drewN_self wr]; generalize hq_ : World.drewN wr _ = wr; have n0_ : Aside0 (Kd.R (Kd.int .i64) 3 wr w.heap.size (fun _ => True) (.slice Ao12 x10_2.length co12) x10_2) := ⟨by rw [← hq_]; exact (by (with_reducible repeat (first | apply Kd.R_alloc | apply Kd.R_drewN | apply Kd.R_drew)); exact HO_10.out)⟩; have n1_ : Aside0 (Kd.R k203 203 wr w.heap.size (fun _ => True) u9 x9_2) := ⟨by rw [← hq_]; exact (by (with_reducible repeat (first | apply Kd.R_alloc | apply Kd.R_drewN | apply Kd.R_drew)); exact HO_9.out)⟩; have n2_ : Aside0 (Below w.heap.size w wr) := ⟨by rw [← hq_]; exact (by repeat (first | (with_reducible first | exact HB.out | apply below_alloc | apply pw_below_drewN | apply below_drew1) | exact HB.out))⟩; (try replace hx352_0 := cell_at hq_ hx352_0); (try replace hx25_0 := cell_at hq_ hx25_0); (try replace hf25_0 := frz_at hq_ hf25_0); (try replace hx354_0 := cell_at hq_ hx354_0); (try replace hx354_1 := cell_at hq_ hx354_1); (try replace hx354_2 := cell_at hq_ hx354_2); (try replace hx34_0 := cell_at hq_ hx34_0); (try replace hf34_0 := frz_at hq_ hf34_0); (try replace hx42_0 := cell_at hq_ hx42_0); (try replace hf42_0 := frz_at hq_ hf42_0); (try replace hx50_0 := cell_at hq_ hx50_0); (try replace hf50_0 := frz_at hq_ hf50_0); (try replace hx372_0 := cell_at hq_ hx372_0); clear HO_10 HO_9 HB hq_; have HO_10 := n0_; have HO_9 := n1_; have HB := n2_; clear n0_ n1_ n2_)); obtain ⟨Ao51, co51, eo51⟩ := Kd.R_slice HO_9.out; subst eo51) | ((with_reducible refine gate_builtin (b := .append) (xs := #[.tmp 72, .tmp 78]) rfl ?_); at_builtin; refine Kd.R_append k203 (w0 := w) w.heap.size rfl (.tmp 72) (.tmp 78) 200 203 (.agg #[(.int .i64 0), (.int .i64 0), (.int .i64 0)]) 24 rfl Try.underlying200 info203 rfl (by decide) (by omega) (.slice Ao51 x9_2.length co51) x9_2 (⟨t353, x13_2, wrap64 (x13_2 + 1)⟩ : S203) [.int .i64 t353, .int .i64 x13_2, .int .i64 (wrap64 (x13_2 + 1))] (fun _ => True) (fun _ => False) rfl rfl ?aP (fun _ hk => hk.elim) ?aF ?aO ?aB ?aS ?aL ?_; (case aP => exact k203_mkM _ _ _ (⟨t353, x13_2, wrap64 (x13_2 + 1)⟩ : S203)); (case aB => exact (by repeat (first | (with_reducible first | exact HB.out | apply below_alloc | apply pw_below_drewN | apply below_drew1) | exact HB.out))); (case aF => exact (fun _ _ => trivial)); (case aO => exact (by (with_reducible repeat (first | apply Kd.R_alloc | apply Kd.R_drewN | apply Kd.R_drew)); exact HO_9.out)); (case aS => exact (below_size (by repeat (first | (with_reducible first | exact HB.out | apply below_alloc | apply pw_below_drewN | apply below_drew1) | exact HB.out)))); (case aL => have := LMc47.out; omega); intro v370 w52 ho hb hg hat; rw [← Ny369.out] at ho; have n0_ := Aside0.mk (Kd.R_over' (by (with_reducible repeat (first | apply Kd.R_alloc | apply Kd.R_drewN | apply Kd.R_drew)); exact HO_10.out) (Kd.R_typed (by (with_reducible repeat (first | apply Kd.R_alloc | apply Kd.R_drewN | apply Kd.R_drew)); exact HO_9.out)) (by decide) hg); have n1_ := Aside0.mk (hb); have n2_ := Aside0.mk (ho); clear HO_10; clear HB; clear HO_9; have HO_10 := n0_; have HB := n1_; have HO371 := n2_; clear n0_ n1_ n2_; clear ho hb hg hat; have p372 : 0 ≤ (t353 : Int) := of_decide_eq_true (by first | (with_reducible assumption) | assumption); have q372 : t353 < (x10_2.length : Int) := of_decide_eq_true (by first | (with_reducible assumption) | assumption); obtain ⟨ad372, e372, hx372_0⟩ := Kd.at_int (Kd.R_reads' HO_10.out).2.2 t353 p372 q372; cases e372; replace p372 := eq_true p372; replace q372 := eq_true q372; have p50 : 0 ≤ (t353 : Int) := of_decide_eq_true (by first | (with_reducible assumption) | assumption); have q50 : (t353 : Int) < ((x10_2.length : Int) : Int) := of_decide_eq_true (by first | (with_reducible assumption) | assumption); obtain ⟨go50, co50, eo50, gb50, gl50, cl50, HG50⟩ := Kd.R_form HO_10.out (by omega); (first | cases eo50 | (injection eo50 with ea_ en_ ec_; (first | subst ea_ | (injection ea_ with ea_; subst ea_)); subst ec_; clear en_)); have GB50 := Aside0.mk gb50; have GG50 := Aside0.mk HG50; clear gb50 gl50 HG50; (first | simp only [add_plain] at hx372_0 | skip); obtain ⟨hx50_0, hf50_0⟩ := Kd.R_celln 0 HO_10.out (t353 : Int) p50 q50; replace p50 := eq_true p50; replace q50 := eq_true q50; obtain ⟨hy53_, hz53_⟩ := Kd.R_celln 0 HO_10.out (t353 : Int) (of_decide_eq_true (by first | (with_reducible assumption) | assumption)) (of_decide_eq_true (by first | (with_reducible assumption) | assumption)); have HP53 := Kd.R_putg HO_10.out (t353 : Int) (wrap64 ((rd x10_2 t353) - 1))) | ((with_reducible refine gate_store (t := 3) (p := 87) rfl ?_); refine store_event (t := 3) (p := 87) (v := ?vo_w54) (w1 := (w52.setCell ⟨go50, (t353 : Int).toNat, none⟩ (.int .i64 (wrap64 ((rd x10_2 t353) - 1))))) ?hg ?ho ?hn ?hr ?_; (case ho => rfl); (case hg => rfl); (case hn => rfl); (case hr => first | (go_simp; done) | (go_simp; rfl)); intro w54 hw; have hg : w52.grownBy w54 (some go50) := (by rw [hw]; exact HP53.2); have hp_ : Kd.R (Kd.int .i64) 3 w54 w.heap.size (fun _ => True) (.slice (some ⟨go50, 0, none⟩) x10_2.length co12) y373 := (by rw [hw, Ny373.out]; exact HP53.1); clear HP53; have n0_ := Aside0.mk (hp_); have n1_ := Aside0.mk (Kd.R_over' (v := (.slice (some ⟨go50, 0, none⟩) x10_2.length co12)) (by (with_reducible repeat (first | apply Kd.R_alloc | apply Kd.R_drewN | apply Kd.R_drew)); exact HO371.out) (Kd.R_typed HO_10.out) (by decide) hg); have n2_ := Aside0.mk ((by rw [hw]; exact below_set (HB.out) GB50.out : Below w.heap.size w w54)); clear HO_10; clear HO371; clear HB; have HO_10 := n0_; have HO371 := n1_; have HB := n2_; clear n0_ n1_ n2_; clear hg hw hp_))
            (try simp only [← hl10_2])
            go_roundg k2
            case measure => have := HK1.out; have := HK2.out; omega
            case rel => exact ⟨(y369), (y373), (wrap64 (x11_2 - 1)), (wrap64 (x13_2 + 1)), (by first | rfl | (simp; done) | (simp [*]; done)), (by first | rfl | (simp; done) | (simp [*]; done)), H', ⟨by have := HK1.out; have := HK2.out; omega⟩, ⟨by (try simp only [hl10_2]); (with_reducible repeat (first | apply Kd.R_alloc | apply Kd.R_drewN | apply Kd.R_drew)); exact HO371.out⟩, ⟨by (try simp only [hl10_2]); (with_reducible repeat (first | apply Kd.R_alloc | apply Kd.R_drewN | apply Kd.R_drew)); exact HO_10.out⟩, ⟨by repeat (first | (with_reducible first | exact HB.out | apply below_alloc | apply pw_below_drewN | apply below_drew1) | exact HB.out)⟩⟩
           ·rw [if_neg c49] at H
            exact absurd H (by simp)
          ·rw [if_neg c48] at H
           exact absurd H (by simp)
         ·rw [if_neg c47] at H
          exact absurd H (by simp)
      ·rw [if_neg c13] at H
       have c13b0 : decide (0 < x11_2) = false := decide_eq_false c13
       clear c13
       obtain rfl := Option.some.inj H
       go_wp2
       go_ret
       exact ⟨_, by first | rfl | (simp [errW_none, errW_some] <;> rfl) | (simp [*, errW_none, errW_some] <;> rfl), by (with_reducible repeat (first | apply Kd.R_alloc | apply Kd.R_drewN | apply Kd.R_drew)); exact HO_9.out, by repeat (first | (with_reducible first | exact HB.out | apply below_alloc | apply pw_below_drewN | apply below_drew1) | exact HB.out)⟩

/-! ### spec_l5Bound: function 101 -/
abbrev q101_0 : Array Bool := #[false, false, false, false, false, false, false, false, false, false, false, false, false, false]
abbrev q101_1 : Array Bool := #[true, false, false, false, false, false, false, false, false, false, false, false, false, false]
abbrev q101_2 : Array Bool := #[true, true, false, false, false, false, false, false, false, false, false, false, false, false]
abbrev q101_3 : Array Bool := #[true, true, true, false, false, false, false, false, false, false, false, false, false, false]
abbrev q101_4 : Array Bool := #[true, true, true, true, false, false, false, false, false, false, false, false, false, false]
abbrev q101_5 : Array Bool := #[true, true, true, true, true, false, false, false, false, false, false, false, false, false]
abbrev q101_6 : Array Bool := #[true, true, true, true, true, false, false, true, false, false, false, false, false, false]
abbrev q101_7 : Array Bool := #[true, true, true, true, true, false, false, true, true, false, false, false, false, false]
abbrev q101_8 : Array Bool := #[true, true, true, true, true, false, false, true, true, true, false, false, false, false]
abbrev q101_9 : Array Bool := #[true, true, true, true, true, false, false, true, true, true, true, false, false, false]
abbrev q101_10 : Array Bool := #[true, true, true, true, true, true, false, true, true, true, true, false, false, false]
abbrev q101_11 : Array Bool := #[true, true, true, true, true, true, false, true, true, true, true, true, false, false]
abbrev q101_12 : Array Bool := #[true, true, true, true, true, true, true, true, true, true, true, true, false, false]
abbrev q101_13 : Array Bool := #[true, true, true, true, true, true, true, true, true, true, true, true, true, false]
abbrev q101_14 : Array Bool := #[true, true, true, true, true, true, true, true, true, true, true, true, true, true]
abbrev q101_15 : Array Bool := #[false, false, false, false, false, false, false, false, false, false, false, false, false]
abbrev q101_16 : Array Bool := #[true, false, false, false, false, false, false, false, false, false, false, false, false]
abbrev q101_17 : Array Bool := #[true, true, false, false, false, false, false, false, false, false, false, false, false]
abbrev q101_18 : Array Bool := #[true, true, true, false, false, false, false, false, false, false, false, false, false]
abbrev q101_19 : Array Bool := #[true, true, true, true, false, false, false, false, false, false, false, false, false]
abbrev q101_20 : Array Bool := #[true, true, true, true, true, false, false, false, false, false, false, false, false]
abbrev q101_21 : Array Bool := #[true, true, true, true, true, false, true, false, false, false, false, false, false]
abbrev q101_22 : Array Bool := #[true, true, true, true, true, false, true, true, false, false, false, false, false]
abbrev q101_23 : Array Bool := #[true, true, true, true, true, false, true, true, true, false, false, false, false]
abbrev q101_24 : Array Bool := #[true, true, true, true, true, false, true, true, true, true, false, false, false]
abbrev q101_25 : Array Bool := #[true, true, true, true, true, true, true, true, true, true, false, false, false]
abbrev q101_26 : Array Bool := #[true, true, true, true, true, true, true, true, true, true, true, false, false]
abbrev q101_27 : Array Bool := #[true, true, true, true, true, true, true, true, true, true, true, true, false]
abbrev q101_28 : Array Bool := #[true, true, true, true, true, true, true, true, true, true, true, true, true]
mutual
def spec_l5Bound.l0 : Nat → List (S129) → List Int → Int → List Int → Int → List Int → Int → Option (Int)
 | 0, _, _, _, _, _, _, _ => none
 | k + 1, x0, x1, x2, x7, x8, x9, x10 => if x10 < (x1.length : Int) then (if 0 ≤ x10 then (if 0 ≤ (rd x1 x10) then (if (rd x1 x10) < (x0.length : Int) then ((spec_l1Most.f x8 ((rd_T129 x0 (rd x1 x10)).f2)).bind fun t390 => (if (rd x1 x10) < (x9.length : Int) then (if (rd x1 x10) < (x7.length : Int) then (spec_l5Bound.l0 k x0 x1 x2 (x7.set ((rd x1 x10) : Int).toNat 0) (wrap64 (t390 + ((rd_T129 x0 (rd x1 x10)).f0))) (x9.set ((rd x1 x10) : Int).toNat (wrap64 (t390 + ((rd_T129 x0 (rd x1 x10)).f0)))) (wrap64 (x10 + 1))) else (none)) else (none))) else (none)) else (none)) else (none)) else ((spec_l5Choose.f k x0 x7 x8 x2).bind fun t394 => (spec_l5Bound.l1 k x0 x2 x9 t394 0))
def spec_l5Bound.l1 : Nat → List (S129) → Int → List Int → List (S203) → Int → Option (Int)
 | 0, _, _, _, _, _ => none
 | k + 1, x0, x2, x9, x12, x13 => if x13 < (x12.length : Int) then (if 0 ≤ x13 then (if 0 ≤ ((rd_T203 x12 x13).f0) then (if ((rd_T203 x12 x13).f0) < (x9.length : Int) then (spec_l5Bound.l1 k x0 x2 (x9.set (((rd_T203 x12 x13).f0) : Int).toNat ((rd_T203 x12 x13).f2)) x12 (wrap64 (x13 + 1))) else (none)) else (none)) else (none)) else ((spec_l2Of.f k x0 x9 x2).bind fun t400 => (some t400))
end
def spec_l5Bound.f (k : Nat) (l0 : List (S129)) (l1 : List Int) (a2 : Int) : Option (Int) := (spec_l5Rests.f k l0).bind fun t382 => (if 0 ≤ (l0.length : Int) then (if ((l0.length : Int) : Int).toNat ≤ 35184372088832 then (spec_l5Bound.l0 k l0 l1 a2 t382 0 (List.replicate ((l0.length : Int) : Int).toNat 0) 0) else (none)) else (none))
theorem spec_l5Bound.mono_l : ∀ k, (∀ y0 y1 y2 y3 y4 y5 y6, LeO (spec_l5Bound.l0 k y0 y1 y2 y3 y4 y5 y6) (spec_l5Bound.l0 (k + 1) y0 y1 y2 y3 y4 y5 y6)) ∧ (∀ y0 y1 y2 y3 y4, LeO (spec_l5Bound.l1 k y0 y1 y2 y3 y4) (spec_l5Bound.l1 (k + 1) y0 y1 y2 y3 y4))
 | 0 => ⟨fun _ _ _ _ _ _ _ r h => by simp [spec_l5Bound.l0] at h, fun _ _ _ _ _ r h => by simp [spec_l5Bound.l1] at h⟩
 | k + 1 => by
  obtain ⟨ih0, ih1⟩ := spec_l5Bound.mono_l k
  refine ⟨?_, ?_⟩
  ·intro y0 y1 y2 y3 y4 y5 y6
   unfold spec_l5Bound.l0
   repeat' first
   | (with_reducible exact ih0 _ _ _ _ _ _ _)
   | (with_reducible exact ih1 _ _ _ _ _)
   | (with_reducible exact spec_l2Of.mono _ _ _ _)
   | (with_reducible exact spec_l5Choose.mono _ _ _ _ _)
   | (with_reducible exact spec_l5Rests.mono _ _)
   | (with_reducible exact LeO.refl _)
   | (with_reducible exact LeO.none _)
   | (with_reducible refine LeO.ite ?_ ?_)
   | (with_reducible refine LeO.bind ?_ (fun _ => ?_))
   | exact ih0 _ _ _ _ _ _ _
   | exact ih1 _ _ _ _ _
   | exact spec_l2Of.mono _ _ _ _
   | exact spec_l5Choose.mono _ _ _ _ _
   | exact spec_l5Rests.mono _ _
   | exact LeO.none _
   | refine LeO.ite ?_ ?_
   | refine LeO.bind ?_ (fun _ => ?_)
  ·intro y0 y1 y2 y3 y4
   unfold spec_l5Bound.l1
   repeat' first
   | (with_reducible exact ih0 _ _ _ _ _ _ _)
   | (with_reducible exact ih1 _ _ _ _ _)
   | (with_reducible exact spec_l2Of.mono _ _ _ _)
   | (with_reducible exact spec_l5Choose.mono _ _ _ _ _)
   | (with_reducible exact spec_l5Rests.mono _ _)
   | (with_reducible exact LeO.refl _)
   | (with_reducible exact LeO.none _)
   | (with_reducible refine LeO.ite ?_ ?_)
   | (with_reducible refine LeO.bind ?_ (fun _ => ?_))
   | exact ih0 _ _ _ _ _ _ _
   | exact ih1 _ _ _ _ _
   | exact spec_l2Of.mono _ _ _ _
   | exact spec_l5Choose.mono _ _ _ _ _
   | exact spec_l5Rests.mono _ _
   | exact LeO.none _
   | refine LeO.ite ?_ ?_
   | refine LeO.bind ?_ (fun _ => ?_)
theorem spec_l5Bound.mono : ∀ a0 a1 a2 k, LeO (spec_l5Bound.f k a0 a1 a2) (spec_l5Bound.f (k + 1) a0 a1 a2) := by
 intro a0 a1 a2 k
 obtain ⟨ih0, ih1⟩ := spec_l5Bound.mono_l k
 unfold spec_l5Bound.f
 repeat' first
   | (with_reducible exact ih0 _ _ _ _ _ _ _)
   | (with_reducible exact ih1 _ _ _ _ _)
   | (with_reducible exact spec_l2Of.mono _ _ _ _)
   | (with_reducible exact spec_l5Choose.mono _ _ _ _ _)
   | (with_reducible exact spec_l5Rests.mono _ _)
   | (with_reducible exact LeO.refl _)
   | (with_reducible exact LeO.none _)
   | (with_reducible refine LeO.ite ?_ ?_)
   | (with_reducible refine LeO.bind ?_ (fun _ => ?_))
   | exact ih0 _ _ _ _ _ _ _
   | exact ih1 _ _ _ _ _
   | exact spec_l2Of.mono _ _ _ _
   | exact spec_l5Choose.mono _ _ _ _ _
   | exact spec_l5Rests.mono _ _
   | exact LeO.none _
   | refine LeO.ite ?_ ?_
   | refine LeO.bind ?_ (fun _ => ?_)
def spec_l5Bound.T7 : Bool × List (List Nat × List Nat) := (true, [([], []), ([], []), ([], []), ([1, 2], [1, 2]), ([3], [3]), ([4], [4]), ([0, 5], [0, 5]), ([], []), ([], []), ([7, 8], [7, 8]), ([9], [9]), ([10], [10]), ([6, 11], [6, 11]), ([12, 6, 0, 1, 2, 3, 4, 5, 6, 7, 8, 9, 10, 11, 12], [0, 12])])
def spec_l5Bound.B7 : List Nat := [0, 0, 0, 6, 14, 30, 63, 0, 0, 384, 896, 1920, 4095, 8191]
theorem spec_l5Bound.tab7 : rtab .any (opsOf Try.f101 7) = spec_l5Bound.T7 := by kernel_rfl
theorem spec_l5Bound.bits7 : waitsOk spec_l5Bound.T7.2 spec_l5Bound.B7 = true := by kernel_rfl
def spec_l5Bound.T14 : Bool × List (List Nat × List Nat) := (true, [([], []), ([], []), ([], []), ([1, 2], [1, 2]), ([3], [3]), ([4], [4]), ([], []), ([], []), ([6, 7], [6, 7]), ([8], [8]), ([9], [9]), ([0, 5, 0, 1, 2, 3, 4, 5, 6, 7, 8, 9, 10], [0, 5]), ([11, 10, 0, 1, 2, 3, 4, 5, 6, 7, 8, 9, 10], [10, 11])])
def spec_l5Bound.B14 : List Nat := [0, 0, 0, 6, 14, 30, 0, 0, 192, 448, 960, 2047, 4095]
theorem spec_l5Bound.tab14 : rtab .any (opsOf Try.f101 14) = spec_l5Bound.T14 := by kernel_rfl
theorem spec_l5Bound.bits14 : waitsOk spec_l5Bound.T14.2 spec_l5Bound.B14 = true := by kernel_rfl
set_option maxHeartbeats 8000000 in
set_option maxRecDepth 100000 in
theorem spec_l5Bound.calls (k : Nat) (A0 : Option Addr) (c0 : Nat) (l0 : List (S129)) (A1 : Option Addr) (c1 : Nat) (l1 : List Int) (a2 : Int) (r : Int) (w : World) (hr0 : Kd.C k129 w A0 l0.length l0) (hc0 : l0.length ≤ c0) (hr1 : Kd.C (Kd.int .i64) w A1 l1.length l1) (hc1 : l1.length ≤ c1) (h : spec_l5Bound.f k l0 l1 a2 = some r) :
  Calls Try.prog 101 #[.slice A0 l0.length c0, .slice A1 l1.length c1, .int .i64 a2] w fun e w' => e = .returned (.int .i64 r) ∧ Below w.heap.size w w' := by
 have HR0 := Aside0.mk hr0
 have HC0 := Aside0.mk hc0
 clear hr0 hc0
 have HR1 := Aside0.mk hr1
 have HC1 := Aside0.mk hc1
 clear hr1 hc1
 have HB := Aside0.mk (Below.refl w.heap.size w)
 have H : ((spec_l5Rests.f k l0).bind fun t382 => (if 0 ≤ (l0.length : Int) then (if ((l0.length : Int) : Int).toNat ≤ 35184372088832 then (spec_l5Bound.l0 k l0 l1 a2 t382 0 (List.replicate ((l0.length : Int) : Int).toNat 0) 0) else (none)) else (none))) = some r := h
 clear h
 replace H := Option.bind_eq_some_iff.mp H
 obtain ⟨t382, A40, H⟩ := H
 replace H : (if 0 ≤ (l0.length : Int) then (if ((l0.length : Int) : Int).toNat ≤ 35184372088832 then (spec_l5Bound.l0 k l0 l1 a2 t382 0 (List.replicate ((l0.length : Int) : Int).toNat 0) 0) else (none)) else (none)) = some r := H
 have A4 := Aside0.mk A40
 clear A40
 by_cases c5 : 0 ≤ (l0.length : Int)
 ·rw [if_pos c5] at H
  have c5b0 := eq_true c5
  have c5b1 : decide (0 ≤ (l0.length : Int)) = true := decide_eq_true c5
  clear c5
  by_cases c6 : ((l0.length : Int) : Int).toNat ≤ 35184372088832
  ·rw [if_pos c6] at H
   have c6b0 := eq_true c6
   have c6b1 : decide (((l0.length : Int) : Int).toNat ≤ 35184372088832) = true := decide_eq_true c6
   clear c6
   obtain ⟨y385, hy385⟩ : ∃ y_ : List Int, y_ = (List.replicate ((l0.length : Int) : Int).toNat 0) := ⟨_, rfl⟩
   replace H : (spec_l5Bound.l0 k l0 l1 a2 t382 0 y385 0) = some r := by first | (rw [hy385]; with_reducible exact H) | (have H2_ := (Option.bind_some _ _).symm.trans H; rw [hy385]; with_reducible exact H2_) | (have H2_ := (Option.bind_some _ _).symm.trans H; with_reducible exact H2_) | with_reducible exact H | (rw [hy385]; exact H) | exact H
   have Ny385 := Aside0.mk hy385
   clear hy385
   have H' := Aside0.mk H
   clear H
   go_enter Try.func101, Try.ntmps101
   go_wp2_with (first | ((with_reducible refine gate_callee (f := 196) rfl ?_); refine goesL_ (some 15) rfl rfl Try.func196 (by kernel_rfl) rfl #[.slice A0 l0.length c0] rfl (by (try simp only [List.map_toArray, List.map_cons, List.map_nil]); first | done | rfl | (simp only [List.length_drop, List.length_take]; rfl)) ?_; (with_reducible refine (spec_l5Rests.calls k _ _ l0 t382 _ ?side1 ?side2 A4.out).mono ?_); (case side1 => repeat (first | exact HR0.out | (with_reducible refine Kd.C_alloc ?_ _) | (with_reducible refine Kd.C_drewN ?_ _) | (with_reducible refine Kd.C_drew ?_))); (case side2 => exact HC0.out); rintro e w7 ⟨v383, rfl, ho0, hb⟩; refine ⟨_, rfl, ?_⟩; have n0_ := Aside0.mk (Kd.R_lower ho0 (below_size (by repeat (first | (with_reducible first | exact HB.out | apply below_alloc | apply pw_below_drewN | apply below_drew1) | exact HB.out)))); have n1_ := Aside0.mk (below_step (by repeat (first | (with_reducible first | exact HB.out | apply below_alloc | apply pw_below_drewN | apply below_drew1) | exact HB.out)) hb); clear HB; have HO384 := n0_; have HB := n1_; clear n0_ n1_; (try clear hb); (try clear hb2); (try clear hk); (try clear hi); (try clear ho0)) | ((with_reducible refine gate_dst (N := 18) rfl ?_); refine Kd.R_make (Kd.int .i64) _ 3 rfl (N := 18) rfl 23 _ _ rfl (l0.length : Int) rfl rfl Try.underlying23 (.int .i64 0) 8 info3 rfl (by decide) (by omega) 0 (ok := fun _ => True) (okp := fun _ => True) rfl (fun _ hk => hk) trivial (of_decide_eq_true (by first | (with_reducible assumption) | assumption)) (Nat.le_trans (Nat.mul_le_mul_right _ (of_decide_eq_true (by first | (with_reducible assumption) | assumption) : (l0.length : Int).toNat ≤ 35184372088832)) (by omega)) (Below.refl _ _) (Nat.le_refl _) ?_; intro v386 w8 ho9 hb hg_ hnew_; clear hg_ hnew_; (first | rw [← Ny385.out] at ho9 | (simp only [Int.reduceToNat] at ho9; rw [← Ny385.out] at ho9)); have n0_ := Aside0.mk (Kd.R_elder' (by (with_reducible repeat (first | apply Kd.R_alloc | apply Kd.R_drewN | apply Kd.R_drew)); exact HO384.out) (Kd.R_base ho9) hb); have n1_ := Aside0.mk (Kd.R_lower (Kd.R_new' ho9 (Kd.R_lt (by (with_reducible repeat (first | apply Kd.R_alloc | apply Kd.R_drewN | apply Kd.R_drew)); exact HO384.out))) (below_size (by repeat (first | (with_reducible first | exact HB.out | apply below_alloc | apply pw_below_drewN | apply below_drew1) | exact HB.out)))); have n2_ := Aside0.mk (below_step (by repeat (first | (with_reducible first | exact HB.out | apply below_alloc | apply pw_below_drewN | apply below_drew1) | exact HB.out)) hb); clear HO384; clear HB; have HO384 := n0_; have HO387 := n1_; have HB := n2_; clear n0_ n1_ n2_; clear hb ho9))
   go_loopg [8, 10] k (fun kq v8 v10 w' => ∃ (x7_1 : List Int) (x8_1 : Int) (x9_1 : List Int) (x10_1 : Int), v8 = .int .i64 x8_1 ∧ v10 = .int .i64 x10_1 ∧ Aside0 (spec_l5Bound.l0 kq l0 l1 a2 x7_1 x8_1 x9_1 x10_1 = some r) ∧ Aside0 (kq ≤ k) ∧ Aside0 (Kd.R (Kd.int .i64) 3 w' w.heap.size (fun k_ => some k_ ≠ (v386 : Value).ownBlock) v383 x7_1) ∧ Aside0 (Kd.R (Kd.int .i64) 3 w' w.heap.size (fun k_ => some k_ ≠ (v383 : Value).ownBlock) v386 x9_1) ∧ Aside0 (Below w.heap.size w w'))
   case atStart => exact ⟨(t382), (0), (y385), (0), (by first | rfl | (simp; done) | (simp [*]; done)), (by first | rfl | (simp; done) | (simp [*]; done)), H', ⟨Nat.le_refl _⟩, ⟨by (with_reducible repeat (first | apply Kd.R_alloc | apply Kd.R_drewN | apply Kd.R_drew)); exact Kd.R_mono HO384.out (fun _ hk => hk.2)⟩, ⟨by (with_reducible repeat (first | apply Kd.R_alloc | apply Kd.R_drewN | apply Kd.R_drew)); exact Kd.R_mono HO387.out (fun _ hk => hk.2)⟩, ⟨by repeat (first | (with_reducible first | exact HB.out | apply below_alloc | apply pw_below_drewN | apply below_drew1) | exact HB.out)⟩⟩
   case round =>
    clear H'
    try clear c1
    try clear p2
    try clear c5
    try clear c5b0
    try clear c5b1
    try clear c6
    try clear c6b0
    try clear c6b1
    obtain ⟨x7_1, x8_1, x9_1, x10_1, rfl, rfl, HA, HK1, HO_7, HO_9, HB⟩ := hrel
    cases gk with
    | zero => exact absurd HA.out (by simp [spec_l5Bound.l0])
    | succ k1 =>
     have H := HA.out
     clear HA
     simp only [spec_l5Bound.l0] at H
     by_cases c10 : x10_1 < (l1.length : Int)
     ·rw [if_pos c10] at H
      have c10b0 : decide (x10_1 < (l1.length : Int)) = true := decide_eq_true c10
      clear c10
      by_cases c11 : 0 ≤ x10_1
      ·rw [if_pos c11] at H
       have c11b0 : decide (0 ≤ x10_1) = true := decide_eq_true c11
       clear c11
       by_cases c12 : 0 ≤ (rd l1 x10_1)
       ·rw [if_pos c12] at H
        have c12b0 : decide (0 ≤ (rd l1 x10_1)) = true := decide_eq_true c12
        clear c12
        by_cases c13 : (rd l1 x10_1) < (l0.length : Int)
        ·rw [if_pos c13] at H
         have c13b0 : decide ((rd l1 x10_1) < (l0.length : Int)) = true := decide_eq_true c13
         clear c13
         replace H := Option.bind_eq_some_iff.mp H
         obtain ⟨t390, A140, H⟩ := H
         replace H : (if (rd l1 x10_1) < (x9_1.length : Int) then (if (rd l1 x10_1) < (x7_1.length : Int) then (spec_l5Bound.l0 k1 l0 l1 a2 (x7_1.set ((rd l1 x10_1) : Int).toNat 0) (wrap64 (t390 + ((rd_T129 l0 (rd l1 x10_1)).f0))) (x9_1.set ((rd l1 x10_1) : Int).toNat (wrap64 (t390 + ((rd_T129 l0 (rd l1 x10_1)).f0)))) (wrap64 (x10_1 + 1))) else (none)) else (none)) = some r := H
         have A14 := Aside0.mk A140
         clear A140
         by_cases c15 : (rd l1 x10_1) < (x9_1.length : Int)
         ·rw [if_pos c15] at H
          have c15b0 : decide ((rd l1 x10_1) < (x9_1.length : Int)) = true := decide_eq_true c15
          clear c15
          obtain ⟨y392, hy392⟩ : ∃ y_ : List Int, y_ = (x9_1.set ((rd l1 x10_1) : Int).toNat (wrap64 (t390 + ((rd_T129 l0 (rd l1 x10_1)).f0)))) := ⟨_, rfl⟩
          replace H : (if (rd l1 x10_1) < (x7_1.length : Int) then (spec_l5Bound.l0 k1 l0 l1 a2 (x7_1.set ((rd l1 x10_1) : Int).toNat 0) (wrap64 (t390 + ((rd_T129 l0 (rd l1 x10_1)).f0))) y392 (wrap64 (x10_1 + 1))) else (none)) = some r := by first | (rw [hy392]; with_reducible exact H) | (have H2_ := (Option.bind_some _ _).symm.trans H; rw [hy392]; with_reducible exact H2_) | (have H2_ := (Option.bind_some _ _).symm.trans H; with_reducible exact H2_) | with_reducible exact H | (rw [hy392]; exact H) | exact H
          have Ny392 := Aside0.mk hy392
          clear hy392
          by_cases c17 : (rd l1 x10_1) < (x7_1.length : Int)
          ·rw [if_pos c17] at H
           have c17b0 : decide ((rd l1 x10_1) < (x7_1.length : Int)) = true := decide_eq_true c17
           clear c17
           obtain ⟨y393, hy393⟩ : ∃ y_ : List Int, y_ = (x7_1.set ((rd l1 x10_1) : Int).toNat 0) := ⟨_, rfl⟩
           replace H : (spec_l5Bound.l0 k1 l0 l1 a2 y393 (wrap64 (t390 + ((rd_T129 l0 (rd l1 x10_1)).f0))) y392 (wrap64 (x10_1 + 1))) = some r := by first | (rw [hy393]; with_reducible exact H) | (have H2_ := (Option.bind_some _ _).symm.trans H; rw [hy393]; with_reducible exact H2_) | (have H2_ := (Option.bind_some _ _).symm.trans H; with_reducible exact H2_) | with_reducible exact H | (rw [hy393]; exact H) | exact H
           have Ny393 := Aside0.mk hy393
           clear hy393
           have H' := Aside0.mk H
           clear H
           have p388 : 0 ≤ (x10_1 : Int) := of_decide_eq_true (by first | (with_reducible assumption) | assumption)
           have q388 : x10_1 < (l1.length : Int) := of_decide_eq_true (by first | (with_reducible assumption) | assumption)
           obtain ⟨ad388, e388, hx388_0⟩ := Kd.at_int HR1.out x10_1 p388 q388
           cases e388
           replace hx388_0 := (HB.out.cell (World.block_lt_of_cell? w _ hx388_0)).trans hx388_0
           replace p388 := eq_true p388
           replace q388 := eq_true q388
           try go_wp2
           have n0_ := Aside0.mk (Kd.R_drew HO_7.out)
           have n1_ := Aside0.mk (Kd.R_drew HO_9.out)
           have n2_ := Aside0.mk (below_drew1 HB.out)
           clear HO_7
           clear HO_9
           clear HB
           have HO_7 := n0_
           have HO_9 := n1_
           have HB := n2_
           clear n0_ n1_ n2_
           have p389 : 0 ≤ ((rd l1 x10_1) : Int) := of_decide_eq_true (by first | (with_reducible assumption) | assumption)
           have q389 : (rd l1 x10_1) < (l0.length : Int) := of_decide_eq_true (by first | (with_reducible assumption) | assumption)
           obtain ⟨ad389, e389, hx389_0, hx389_1, hx389_2, hx389_3⟩ := at_T129 HR0.out (rd l1 x10_1) p389 q389
           have hw389_3 := hx389_3
           have hw389_2 := hx389_2
           have hw389_1 := hx389_1
           have hw389_0 := hx389_0
           cases e389
           replace hx389_0 := (HB.out.cell (World.block_lt_of_cell? w _ hx389_0)).trans hx389_0
           replace hx389_1 := (HB.out.cell (World.block_lt_of_cell? w _ hx389_1)).trans hx389_1
           replace hx389_2 := (HB.out.cell (World.block_lt_of_cell? w _ hx389_2)).trans hx389_2
           replace hx389_3 := (HB.out.cell (World.block_lt_of_cell? w _ hx389_3)).trans hx389_3
           replace p389 := eq_true p389
           replace q389 := eq_true q389
           have p391 : 0 ≤ ((rd l1 x10_1) : Int) := of_decide_eq_true (by first | (with_reducible assumption) | assumption)
           have q391 : (rd l1 x10_1) < (l0.length : Int) := of_decide_eq_true (by first | (with_reducible assumption) | assumption)
           obtain ⟨ad391, e391, hx391_0, hx391_1, hx391_2, hx391_3⟩ := at_T129 HR0.out (rd l1 x10_1) p391 q391
           have hw391_3 := hx391_3
           have hw391_2 := hx391_2
           have hw391_1 := hx391_1
           have hw391_0 := hx391_0
           obtain rfl : ad389 = ad391 := (by injection e391)
           replace hx391_0 := (HB.out.cell (World.block_lt_of_cell? w _ hx391_0)).trans hx391_0
           replace hx391_1 := (HB.out.cell (World.block_lt_of_cell? w _ hx391_1)).trans hx391_1
           replace hx391_2 := (HB.out.cell (World.block_lt_of_cell? w _ hx391_2)).trans hx391_2
           replace hx391_3 := (HB.out.cell (World.block_lt_of_cell? w _ hx391_3)).trans hx391_3
           replace p391 := eq_true p391
           replace q391 := eq_true q391
           refine start_ (n := 14) (S := fun w' => w'.cell? (ad389.add (((rd l1 x10_1)).toNat * 4)) = some (.int .i64 ((rd_T129 l0 (rd l1 x10_1)).f0)) ∧ w'.cell? ⟨(ad389.add (((rd l1 x10_1)).toNat * 4)).block, (ad389.add (((rd l1 x10_1)).toNat * 4)).off + 1, none⟩ = some (.int .i64 ((rd_T129 l0 (rd l1 x10_1)).f1)) ∧ w'.cell? ⟨(ad389.add (((rd l1 x10_1)).toNat * 4)).block, (ad389.add (((rd l1 x10_1)).toNat * 4)).off + 2, none⟩ = some (.int .i64 ((rd_T129 l0 (rd l1 x10_1)).f2)) ∧ w'.cell? ⟨(ad389.add (((rd l1 x10_1)).toNat * 4)).block, (ad389.add (((rd l1 x10_1)).toNat * 4)).off + 3, none⟩ = some (.int .i64 ((rd_T129 l0 (rd l1 x10_1)).f3)) ∧ w'.cell? (ad389.add (((rd l1 x10_1)).toNat * 4)) = some (.int .i64 ((rd_T129 l0 (rd l1 x10_1)).f0)) ∧ w'.cell? ⟨(ad389.add (((rd l1 x10_1)).toNat * 4)).block, (ad389.add (((rd l1 x10_1)).toNat * 4)).off + 1, none⟩ = some (.int .i64 ((rd_T129 l0 (rd l1 x10_1)).f1)) ∧ w'.cell? ⟨(ad389.add (((rd l1 x10_1)).toNat * 4)).block, (ad389.add (((rd l1 x10_1)).toNat * 4)).off + 2, none⟩ = some (.int .i64 ((rd_T129 l0 (rd l1 x10_1)).f2)) ∧ w'.cell? ⟨(ad389.add (((rd l1 x10_1)).toNat * 4)).block, (ad389.add (((rd l1 x10_1)).toNat * 4)).off + 3, none⟩ = some (.int .i64 ((rd_T129 l0 (rd l1 x10_1)).f3))) (ds := []) q101_0 (by kernel_rfl) rfl rfl ⟨(bcl_ HB.out hw389_0 :), (bcl_ HB.out hw389_1 :), (bcl_ HB.out hw389_2 :), (bcl_ HB.out hw389_3 :), (bcl_ HB.out hw391_0 :), (bcl_ HB.out hw391_1 :), (bcl_ HB.out hw391_2 :), (bcl_ HB.out hw391_3 :)⟩ (fun hHeld => ?_); refine with_tabW spec_l5Bound.tab7 spec_l5Bound.bits7 (fun HT_ HW_ => ?_)
           generalize wr.drew = w19 at HO_7 HO_9 HB hx389_0 hx389_1 hx389_2 hx389_3 hx391_0 hx391_1 hx391_2 hx391_3 hHeld ⊢
           refine pure_ (i := 0) (N := some 29) (v := ?_) (a' := ?_) q101_1 rfl rfl (any_of HT_.out (by kernel_rfl)) (fun _ _ _ h => h) (Or.inl ⟨by rfl, ?_⟩) ?_ ?_
           rotate_left
           ·intro w'
            go_simp
            with_reducible rfl
           rotate_left
           ·simp only [aq_]
            rfl
           refine pure_ (i := 1) (N := some 30) (v := ?_) (a' := ?_) q101_2 rfl rfl (any_of HT_.out (by kernel_rfl)) (fun _ _ _ h => h) (Or.inl ⟨by rfl, ?_⟩) ?_ ?_
           rotate_left
           ·intro w'
            go_simp
            with_reducible rfl
           rotate_left
           ·simp only [aq_]
            rfl
           refine pure_ (i := 2) (N := some 31) (v := ?_) (a' := ?_) q101_3 rfl rfl (any_of HT_.out (by kernel_rfl)) (fun _ _ _ h => h) (Or.inl ⟨by rfl, ?_⟩) ?_ ?_
           rotate_left
           ·intro w'
            go_simp
            with_reducible rfl
           rotate_left
           ·simp only [aq_]
            rfl
           refine pure_ (i := 3) (N := some 32) (v := ?_) (a' := ?_) q101_4 rfl rfl (any_of HT_.out (by kernel_rfl)) (fun _ _ _ h => h) (Or.inl ⟨by rfl, ?_⟩) ?_ ?_
           rotate_left
           ·intro w'
            go_simp
            with_reducible rfl
           rotate_left
           ·simp only [aq_]
            rfl
           refine pure_ (i := 4) (N := some 33) (v := ?_) (a' := ?_) q101_5 rfl rfl (any_of HT_.out (by kernel_rfl)) (fun _ _ _ h => h) (Or.inl ⟨by rfl, ?_⟩) ?_ ?_
           rotate_left
           ·intro w'
            go_simp
            with_reducible rfl
           rotate_left
           ·simp only [aq_]
            rfl
           refine pure_ (i := 7) (N := some 36) (v := ?_) (a' := ?_) q101_6 rfl rfl (any_of HT_.out (by kernel_rfl)) (fun _ _ _ h => h) (Or.inl ⟨by rfl, ?_⟩) ?_ ?_
           rotate_left
           ·intro w'
            go_simp
            with_reducible rfl
           rotate_left
           ·simp only [aq_]
            rfl
           refine pure_ (i := 8) (N := some 37) (v := ?_) (a' := ?_) q101_7 rfl rfl (any_of HT_.out (by kernel_rfl)) (fun _ _ _ h => h) (Or.inl ⟨by rfl, ?_⟩) ?_ ?_
           rotate_left
           ·intro w'
            go_simp
            with_reducible rfl
           rotate_left
           ·simp only [aq_]
            rfl
           refine pure_ (i := 9) (N := some 38) (v := ?_) (a' := ?_) q101_8 rfl rfl (any_of HT_.out (by kernel_rfl)) (fun _ _ _ h => h) (Or.inl ⟨by rfl, ?_⟩) ?_ ?_
           rotate_left
           ·intro w'
            go_simp
            with_reducible rfl
           rotate_left
           ·simp only [aq_]
            rfl
           refine pure_ (i := 10) (N := some 39) (v := ?_) (a' := ?_) q101_9 rfl rfl (any_of HT_.out (by kernel_rfl)) (fun _ _ _ h => h) (Or.inl ⟨by rfl, ?_⟩) ?_ ?_
           rotate_left
           ·intro w'
            go_simp
            with_reducible rfl
           rotate_left
           ·simp only [aq_]
            rfl
           refine take_ (i := 5) (N := some 34) (v := ?_) (a' := ?_) q101_10 rfl rfl (take_ofW HT_.out HW_.out (by kernel_rfl)) (fun _ _ _ h => h) (Or.inl ⟨by rfl, ?_⟩) hHeld ?_ ?_
           rotate_left
           ·rintro w' ⟨s0, s1, s2, s3, s4, s5, s6, s7⟩
            go_simp
            with_reducible rfl
           rotate_left
           ·simp only [aq_]
            rfl
           refine take_ (i := 11) (N := some 40) (v := ?_) (a' := ?_) q101_11 rfl rfl (take_ofW HT_.out HW_.out (by kernel_rfl)) (fun _ _ _ h => h) (Or.inl ⟨by rfl, ?_⟩) hHeld ?_ ?_
           rotate_left
           ·rintro w' ⟨s0, s1, s2, s3, s4, s5, s6, s7⟩
            go_simp
            with_reducible rfl
           rotate_left
           ·simp only [aq_]
            rfl
           refine one_ (i := 6) (N := some 35) q101_12 rfl rfl (one_of HT_.out (by kernel_rfl)) (by decide) (fun K hK => ?_)
           refine goes_ Try.func197 (by kernel_rfl) rfl #[.int .i64 x8_1, .int .i64 ((rd_T129 l0 (rd l1 x10_1)).f2)] (by rfl) rfl rfl (by (try simp only [List.map_toArray, List.map_cons, List.map_nil]); first | done | rfl | (simp only [List.length_drop, List.length_take]; rfl)) ?_
           with_reducible refine (spec_l1Most.calls x8_1 ((rd_T129 l0 (rd l1 x10_1)).f2) t390 _ A14.out).mono ?_
           rintro e w' ⟨rfl, ⟨nd, rfl⟩⟩
           refine ⟨_, rfl, ?_⟩
           refine hK.out _ _ ⟨(bcl_ HB.out hw389_0 :), (bcl_ HB.out hw389_1 :), (bcl_ HB.out hw389_2 :), (bcl_ HB.out hw389_3 :), (bcl_ HB.out hw391_0 :), (bcl_ HB.out hw391_1 :), (bcl_ HB.out hw391_2 :), (bcl_ HB.out hw391_3 :)⟩ (fun hHeld => ?_)
           clear hK K
           refine norm_ (a' := ?_) ?_ ?_
           rotate_left
           ·show Act.put _ (some 35) _ = _
            simp only [aq_]
            rfl
           refine pure_ (i := 12) (N := some 41) (v := ?_) (a' := ?_) q101_13 rfl rfl (any_of HT_.out (by kernel_rfl)) (fun _ _ _ h => h) (Or.inl ⟨by rfl, ?_⟩) ?_ ?_
           rotate_left
           ·intro w'
            go_simp
            with_reducible rfl
           rotate_left
           ·simp only [aq_]
            rfl
           refine pure_ (i := 13) (N := some 8) (v := ?_) (a' := ?_) q101_14 rfl rfl (any_of HT_.out (by kernel_rfl)) (fun _ _ _ h => h) (Or.inl ⟨by rfl, ?_⟩) ?_ ?_
           rotate_left
           ·intro w'
            go_simp
            with_reducible rfl
           rotate_left
           ·simp only [aq_]
            rfl
           refine done_ (done_of HT_.out (by kernel_rfl)) ?_
           repeat (rw [drewN_self w19]; generalize hq_ : World.drewN w19 _ = w19; (first | replace HO_7 := Aside0.mk (Kd.R_at hq_ HO_7.out) | replace HO_7 := Aside0.mk (Kd.S_at hq_ HO_7.out) | replace HO_7 := Aside0.mk (Kd.Q_at hq_ HO_7.out) | skip); (first | replace HO_9 := Aside0.mk (Kd.R_at hq_ HO_9.out) | replace HO_9 := Aside0.mk (Kd.S_at hq_ HO_9.out) | replace HO_9 := Aside0.mk (Kd.Q_at hq_ HO_9.out) | skip); (try replace HB := Aside0.mk (below_at hq_ HB.out)); (try replace hx389_0 := cell_at hq_ hx389_0); (try replace hx389_1 := cell_at hq_ hx389_1); (try replace hx389_2 := cell_at hq_ hx389_2); (try replace hx389_3 := cell_at hq_ hx389_3); (try replace hx391_0 := cell_at hq_ hx391_0); (try replace hx391_1 := cell_at hq_ hx391_1); (try replace hx391_2 := cell_at hq_ hx391_2); (try replace hx391_3 := cell_at hq_ hx391_3); clear hq_)
           have p16 : 0 ≤ ((rd l1 x10_1) : Int) := of_decide_eq_true (by first | (with_reducible assumption) | assumption)
           have q16 : ((rd l1 x10_1) : Int) < ((x9_1.length : Int) : Int) := of_decide_eq_true (by first | (with_reducible assumption) | assumption)
           obtain ⟨go16, co16, eo16, gb16, gl16, cl16, HG16⟩ := Kd.R_form HO_9.out (by omega)
           (first | cases eo16 | (injection eo16 with ea_ en_ ec_; (first | subst ea_ | (injection ea_ with ea_; subst ea_)); subst ec_; clear en_))
           have GB16 := Aside0.mk gb16
           have GG16 := Aside0.mk HG16
           clear gb16 gl16 HG16
           obtain ⟨hx16_0, hf16_0⟩ := Kd.R_celln 0 HO_9.out ((rd l1 x10_1) : Int) p16 q16
           replace p16 := eq_true p16
           replace q16 := eq_true q16
           obtain ⟨hy20_, hz20_⟩ := Kd.R_celln 0 HO_9.out ((rd l1 x10_1) : Int) (of_decide_eq_true (by first | (with_reducible assumption) | assumption)) (of_decide_eq_true (by first | (with_reducible assumption) | assumption))
           have HP20 := Kd.R_putg HO_9.out ((rd l1 x10_1) : Int) (wrap64 (t390 + ((rd_T129 l0 (rd l1 x10_1)).f0)))
           try go_wp2_with (first | ((with_reducible refine gate_store (t := 3) (p := 45) rfl ?_); refine store_event (t := 3) (p := 45) (v := ?vo_w21) (w1 := (w19.setCell ⟨go16, ((rd l1 x10_1) : Int).toNat, none⟩ (.int .i64 (wrap64 (t390 + ((rd_T129 l0 (rd l1 x10_1)).f0)))))) ?hg ?ho ?hn ?hr ?_; (case ho => rfl); (case hg => rfl); (case hn => rfl); (case hr => first | (go_simp; done) | (go_simp; rfl)); intro w21 hw; have hg : w19.grownBy w21 (some go16) := (by rw [hw]; exact HP20.2); have hp_ : Kd.R (Kd.int .i64) 3 w21 w.heap.size (fun k_ => some k_ ≠ (v383 : Value).ownBlock) (.slice (some ⟨go16, 0, none⟩) x9_1.length co16) y392 := (by rw [hw, Ny392.out]; exact HP20.1); clear HP20; have n0_ := Aside0.mk (Kd.R_after (v := (.slice (some ⟨go16, 0, none⟩) x9_1.length co16)) (v1 := (.slice (some ⟨go16, 0, none⟩) x9_1.length co16)) (ok := (fun _ => True)) (by (with_reducible repeat (first | apply Kd.R_alloc | apply Kd.R_drewN | apply Kd.R_drew)); exact Kd.R_mono HO_7.out (fun _ hk => ⟨trivial, hk⟩)) hg (.inl rfl)); have n1_ := Aside0.mk (hp_); have n2_ := Aside0.mk ((by rw [hw]; exact below_set (HB.out) GB16.out : Below w.heap.size w w21)); clear HO_7; clear HO_9; clear HB; have HO_7 := n0_; have HO_9 := n1_; have HB := n2_; clear n0_ n1_ n2_; clear hg hw hp_; have p18 : 0 ≤ ((rd l1 x10_1) : Int) := of_decide_eq_true (by first | (with_reducible assumption) | assumption); have q18 : ((rd l1 x10_1) : Int) < ((x7_1.length : Int) : Int) := of_decide_eq_true (by first | (with_reducible assumption) | assumption); obtain ⟨go18, co18, eo18, gb18, gl18, cl18, HG18⟩ := Kd.R_form HO_7.out (by omega); (first | cases eo18 | (injection eo18 with ea_ en_ ec_; (first | subst ea_ | (injection ea_ with ea_; subst ea_)); subst ec_; clear en_)); have GB18 := Aside0.mk gb18; have GG18 := Aside0.mk HG18; clear gb18 gl18 HG18; obtain ⟨hx18_0, hf18_0⟩ := Kd.R_celln 0 HO_7.out ((rd l1 x10_1) : Int) p18 q18; replace p18 := eq_true p18; replace q18 := eq_true q18; have n_ := Aside0.mk (Kd.R_mono (ok' := (fun k_ => some k_ ≠ (.slice (some ⟨go16, 0, none⟩) x9_1.length co16 : Value).ownBlock)) HO_7.out (fun k_ hk => hk.2)); clear HO_7; have HO_7 := n_; clear n_; obtain ⟨hy22_, hz22_⟩ := Kd.R_celln 0 HO_7.out ((rd l1 x10_1) : Int) (of_decide_eq_true (by first | (with_reducible assumption) | assumption)) (of_decide_eq_true (by first | (with_reducible assumption) | assumption)); have HP22 := Kd.R_putg HO_7.out ((rd l1 x10_1) : Int) 0) | ((with_reducible refine gate_store (t := 3) (p := 48) rfl ?_); refine store_event (t := 3) (p := 48) (v := ?vo_w23) (w1 := (w21.setCell ⟨go18, ((rd l1 x10_1) : Int).toNat, none⟩ (.int .i64 0))) ?hg ?ho ?hn ?hr ?_; (case ho => rfl); (case hg => rfl); (case hn => rfl); (case hr => first | (go_simp; done) | (go_simp; rfl)); intro w23 hw; have hg : w21.grownBy w23 (some go18) := (by rw [hw]; exact HP22.2); have hp_ : Kd.R (Kd.int .i64) 3 w23 w.heap.size (fun k_ => some k_ ≠ (.slice (some ⟨go16, 0, none⟩) x9_1.length co16 : Value).ownBlock) (.slice (some ⟨go18, 0, none⟩) x7_1.length co18) y393 := (by rw [hw, Ny393.out]; exact HP22.1); clear HP22; have n0_ := Aside0.mk (hp_); have n1_ := Aside0.mk (Kd.R_after (v := (.slice (some ⟨go18, 0, none⟩) x7_1.length co18)) (v1 := (.slice (some ⟨go18, 0, none⟩) x7_1.length co18)) (ok := (fun _ => True)) (by (with_reducible repeat (first | apply Kd.R_alloc | apply Kd.R_drewN | apply Kd.R_drew)); exact Kd.R_mono HO_9.out (fun _ hk => ⟨trivial, hk⟩)) hg (.inl rfl)); have n2_ := Aside0.mk ((by rw [hw]; exact below_set (HB.out) GB18.out : Below w.heap.size w w23)); clear HO_7; clear HO_9; clear HB; have HO_7 := n0_; have HO_9 := n1_; have HB := n2_; clear n0_ n1_ n2_; clear hg hw hp_))
           go_roundg k1
           case measure => have := HK1.out; omega
           case rel => exact ⟨(y393), (wrap64 (t390 + ((rd_T129 l0 (rd l1 x10_1)).f0))), (y392), (wrap64 (x10_1 + 1)), (by first | rfl | (simp; done) | (simp [*]; done)), (by first | rfl | (simp; done) | (simp [*]; done)), H', ⟨by have := HK1.out; omega⟩, ⟨by (with_reducible repeat (first | apply Kd.R_alloc | apply Kd.R_drewN | apply Kd.R_drew)); exact HO_7.out⟩, ⟨by (with_reducible repeat (first | apply Kd.R_alloc | apply Kd.R_drewN | apply Kd.R_drew)); exact Kd.R_mono HO_9.out (fun _ hk => hk.2)⟩, ⟨by repeat (first | (with_reducible first | exact HB.out | apply below_alloc | apply pw_below_drewN | apply below_drew1) | exact HB.out)⟩⟩
          ·rw [if_neg c17] at H
           exact absurd H (by simp)
         ·rw [if_neg c15] at H
          exact absurd H (by simp)
        ·rw [if_neg c13] at H
         exact absurd H (by simp)
       ·rw [if_neg c12] at H
        exact absurd H (by simp)
      ·rw [if_neg c11] at H
       exact absurd H (by simp)
     ·rw [if_neg c10] at H
      have c10b0 : decide (x10_1 < (l1.length : Int)) = false := decide_eq_false c10
      clear c10
      replace H := Option.bind_eq_some_iff.mp H
      obtain ⟨t394, A240, H⟩ := H
      replace H : (spec_l5Bound.l1 k1 l0 a2 x9_1 t394 0) = some r := H
      have A24 := Aside0.mk A240
      clear A240
      have H' := Aside0.mk H
      clear H
      obtain ⟨Ao25, co25, eo25⟩ := Kd.R_slice HO_7.out
      subst eo25
      go_wp2_with (first | ((with_reducible refine gate_callee (f := 198) rfl ?_); refine goesL_ (some 53) rfl rfl Try.func198 (by kernel_rfl) rfl #[.slice A0 l0.length c0, .slice Ao25 x7_1.length co25, .int .i64 x8_1, .int .i64 a2] rfl (by (try simp only [List.map_toArray, List.map_cons, List.map_nil]); first | done | rfl | (simp only [List.length_drop, List.length_take]; rfl)) ?_; (with_reducible refine (spec_l5Choose.calls k1 _ _ l0 _ _ x7_1 x8_1 a2 t394 _ ?side1 ?side2 ?side3 ?side4 A24.out).mono ?_); (case side1 => repeat (first | exact (Kd.C_below HR0.out HB.out) | (with_reducible refine Kd.C_alloc ?_ _) | (with_reducible refine Kd.C_drewN ?_ _) | (with_reducible refine Kd.C_drew ?_))); (case side2 => exact HC0.out); (case side3 => repeat (first | exact (Kd.R_reads' HO_7.out).2.2 | (with_reducible refine Kd.C_alloc ?_ _) | (with_reducible refine Kd.C_drewN ?_ _) | (with_reducible refine Kd.C_drew ?_))); (case side4 => exact (Kd.R_reads' HO_7.out).2.1); rintro e w26 ⟨v395, rfl, ho0, hb⟩; refine ⟨_, rfl, ?_⟩; have n0_ := Aside0.mk (Kd.R_below (by (with_reducible repeat (first | apply Kd.R_alloc | apply Kd.R_drewN | apply Kd.R_drew)); exact HO_7.out) hb); have n1_ := Aside0.mk (Kd.R_below (by (with_reducible repeat (first | apply Kd.R_alloc | apply Kd.R_drewN | apply Kd.R_drew)); exact HO_9.out) hb); have n2_ := Aside0.mk (Kd.R_lower ho0 (below_size (by repeat (first | (with_reducible first | exact HB.out | apply below_alloc | apply pw_below_drewN | apply below_drew1) | exact HB.out)))); have n3_ := Aside0.mk (below_step (by repeat (first | (with_reducible first | exact HB.out | apply below_alloc | apply pw_below_drewN | apply below_drew1) | exact HB.out)) hb); clear HO_7; clear HO_9; clear HB; have HO_7 := n0_; have HO_9 := n1_; have HO396 := n2_; have HB := n3_; clear n0_ n1_ n2_ n3_; (try clear hb); (try clear hb2); (try clear hk); (try clear hi); (try clear ho0)))
      go_loopg [13] k1 (fun kq v13 w' => ∃ (x9_2 : List Int) (x13_2 : Int), v13 = .int .i64 x13_2 ∧ Aside0 (spec_l5Bound.l1 kq l0 a2 x9_2 t394 x13_2 = some r) ∧ Aside0 (kq ≤ k1) ∧ Aside0 (Kd.R (Kd.int .i64) 3 w' w.heap.size (fun _ => True) v386 x9_2) ∧ Aside0 (Kd.R k203 203 w' w.heap.size (fun _ => True) v395 t394) ∧ Aside0 (Below w.heap.size w w'))
      case atStart => exact ⟨(x9_1), (0), (by first | rfl | (simp; done) | (simp [*]; done)), H', ⟨Nat.le_refl _⟩, ⟨by (with_reducible repeat (first | apply Kd.R_alloc | apply Kd.R_drewN | apply Kd.R_drew)); exact Kd.R_mono HO_9.out (fun _ hk => trivial)⟩, ⟨by (with_reducible repeat (first | apply Kd.R_alloc | apply Kd.R_drewN | apply Kd.R_drew)); exact HO396.out⟩, ⟨by repeat (first | (with_reducible first | exact HB.out | apply below_alloc | apply pw_below_drewN | apply below_drew1) | exact HB.out)⟩⟩
      case round =>
       clear H'
       try clear c1
       try clear p1
       try clear q1
       try clear hx1
       try clear p2
       try clear p3
       try clear q3
       try clear hx3
       try clear c5
       try clear c5b0
       try clear c5b1
       try clear c6
       try clear c6b0
       try clear c6b1
       try clear p6
       try clear c10
       try clear c10b0
       try clear c11
       try clear c11b0
       try clear c12
       try clear c12b0
       try clear c13
       try clear c13b0
       try clear c15
       try clear c15b0
       try clear p16
       try clear q16
       try clear hx16
       try clear hf16
       try clear c17
       try clear c17b0
       try clear p18
       try clear q18
       try clear hx18
       try clear hf18
       try clear c19
       try clear hx16_0
       try clear hx18_0
       try clear hx388_0
       try clear hx389_0
       try clear hx389_1
       try clear hx389_2
       try clear hx389_3
       try clear hx391_0
       try clear hx391_1
       try clear hx391_2
       try clear hx391_3
       try clear p16
       try clear p18
       try clear p2
       try clear p388
       try clear p389
       try clear p391
       try clear q16
       try clear q18
       try clear q388
       try clear q389
       try clear q391
       obtain ⟨x9_2, x13_2, rfl, HA, HK2, HO_9, HO_12, HB⟩ := hrel
       cases gk with
       | zero => exact absurd HA.out (by simp [spec_l5Bound.l1])
       | succ k2 =>
        have H := HA.out
        clear HA
        simp only [spec_l5Bound.l1] at H
        by_cases c27 : x13_2 < (t394.length : Int)
        ·rw [if_pos c27] at H
         have c27b0 : decide (x13_2 < (t394.length : Int)) = true := decide_eq_true c27
         clear c27
         by_cases c28 : 0 ≤ x13_2
         ·rw [if_pos c28] at H
          have c28b0 : decide (0 ≤ x13_2) = true := decide_eq_true c28
          clear c28
          by_cases c29 : 0 ≤ ((rd_T203 t394 x13_2).f0)
          ·rw [if_pos c29] at H
           have c29b0 : decide (0 ≤ ((rd_T203 t394 x13_2).f0)) = true := decide_eq_true c29
           clear c29
           by_cases c30 : ((rd_T203 t394 x13_2).f0) < (x9_2.length : Int)
           ·rw [if_pos c30] at H
            have c30b0 : decide (((rd_T203 t394 x13_2).f0) < (x9_2.length : Int)) = true := decide_eq_true c30
            clear c30
            obtain ⟨y399, hy399⟩ : ∃ y_ : List Int, y_ = (x9_2.set (((rd_T203 t394 x13_2).f0) : Int).toNat ((rd_T203 t394 x13_2).f2)) := ⟨_, rfl⟩
            replace H : (spec_l5Bound.l1 k2 l0 a2 y399 t394 (wrap64 (x13_2 + 1))) = some r := by first | (rw [hy399]; with_reducible exact H) | (have H2_ := (Option.bind_some _ _).symm.trans H; rw [hy399]; with_reducible exact H2_) | (have H2_ := (Option.bind_some _ _).symm.trans H; with_reducible exact H2_) | with_reducible exact H | (rw [hy399]; exact H) | exact H
            have Ny399 := Aside0.mk hy399
            clear hy399
            have H' := Aside0.mk H
            clear H
            obtain ⟨Ao32, co32, eo32⟩ := Kd.R_slice HO_12.out
            subst eo32
            try go_wp2
            have n0_ := Aside0.mk (Kd.R_drew HO_9.out)
            have n1_ := Aside0.mk (Kd.R_drew HO_12.out)
            have n2_ := Aside0.mk (below_drew1 HB.out)
            clear HO_9
            clear HO_12
            clear HB
            have HO_9 := n0_
            have HO_12 := n1_
            have HB := n2_
            clear n0_ n1_ n2_
            have p397 : 0 ≤ (x13_2 : Int) := of_decide_eq_true (by first | (with_reducible assumption) | assumption)
            have q397 : x13_2 < (t394.length : Int) := of_decide_eq_true (by first | (with_reducible assumption) | assumption)
            obtain ⟨ad397, e397, hx397_0, hx397_1, hx397_2⟩ := at_T203 (Kd.R_reads' HO_12.out).2.2 x13_2 p397 q397
            cases e397
            replace p397 := eq_true p397
            replace q397 := eq_true q397
            have p398 : 0 ≤ (x13_2 : Int) := of_decide_eq_true (by first | (with_reducible assumption) | assumption)
            have q398 : x13_2 < (t394.length : Int) := of_decide_eq_true (by first | (with_reducible assumption) | assumption)
            obtain ⟨ad398, e398, hx398_0, hx398_1, hx398_2⟩ := at_T203 (Kd.R_reads' HO_12.out).2.2 x13_2 p398 q398
            obtain rfl : ad397 = ad398 := (by injection e398)
            replace p398 := eq_true p398
            replace q398 := eq_true q398
            have p31 : 0 ≤ (((rd_T203 t394 x13_2).f0) : Int) := of_decide_eq_true (by first | (with_reducible assumption) | assumption)
            have q31 : (((rd_T203 t394 x13_2).f0) : Int) < ((x9_2.length : Int) : Int) := of_decide_eq_true (by first | (with_reducible assumption) | assumption)
            obtain ⟨go31, co31, eo31, gb31, gl31, cl31, HG31⟩ := Kd.R_form HO_9.out (by omega)
            (first | cases eo31 | (injection eo31 with ea_ en_ ec_; (first | subst ea_ | (injection ea_ with ea_; subst ea_)); subst ec_; clear en_))
            have GB31 := Aside0.mk gb31
            have GG31 := Aside0.mk HG31
            clear gb31 gl31 HG31
            obtain ⟨hx31_0, hf31_0⟩ := Kd.R_celln 0 HO_9.out (((rd_T203 t394 x13_2).f0) : Int) p31 q31
            replace p31 := eq_true p31
            replace q31 := eq_true q31
            have HP34 := Kd.R_putn HO_9.out (((rd_T203 t394 x13_2).f0) : Int) ((rd_T203 t394 x13_2).f2)
            rw [← Ny399.out] at HP34
            have HQ34 := Aside0.mk HP34
            clear HP34
            refine start_ (n := 13) (S := fun w' => w'.cell? (ad397.add ((x13_2).toNat * 3)) = some (.int .i64 ((rd_T203 t394 x13_2).f0)) ∧ w'.cell? ⟨(ad397.add ((x13_2).toNat * 3)).block, (ad397.add ((x13_2).toNat * 3)).off + 1, none⟩ = some (.int .i64 ((rd_T203 t394 x13_2).f1)) ∧ w'.cell? ⟨(ad397.add ((x13_2).toNat * 3)).block, (ad397.add ((x13_2).toNat * 3)).off + 2, none⟩ = some (.int .i64 ((rd_T203 t394 x13_2).f2)) ∧ w'.cell? (ad397.add ((x13_2).toNat * 3)) = some (.int .i64 ((rd_T203 t394 x13_2).f0)) ∧ w'.cell? ⟨(ad397.add ((x13_2).toNat * 3)).block, (ad397.add ((x13_2).toNat * 3)).off + 1, none⟩ = some (.int .i64 ((rd_T203 t394 x13_2).f1)) ∧ w'.cell? ⟨(ad397.add ((x13_2).toNat * 3)).block, (ad397.add ((x13_2).toNat * 3)).off + 2, none⟩ = some (.int .i64 ((rd_T203 t394 x13_2).f2))) (ds := [12]) q101_15 (by kernel_rfl) rfl rfl ⟨hx397_0, hx397_1, hx397_2, hx398_0, hx398_1, hx398_2⟩ (fun hHeld => ?_); refine with_tabW spec_l5Bound.tab14 spec_l5Bound.bits14 (fun HT_ HW_ => ?_)
            generalize wr.drew = w33 at HO_9 HO_12 HB GG31 HQ34 hf31_0 hx31_0 hx397_0 hx397_1 hx397_2 hx398_0 hx398_1 hx398_2 hHeld ⊢
            refine pure_ (i := 0) (N := some 60) (v := ?_) (a' := ?_) q101_16 rfl rfl (any_of HT_.out (by kernel_rfl)) (fun _ _ _ h => h) (Or.inl ⟨by rfl, ?_⟩) ?_ ?_
            rotate_left
            ·intro w'
             go_simp
             with_reducible rfl
            rotate_left
            ·simp only [aq_]
             rfl
            refine pure_ (i := 1) (N := some 61) (v := ?_) (a' := ?_) q101_17 rfl rfl (any_of HT_.out (by kernel_rfl)) (fun _ _ _ h => h) (Or.inl ⟨by rfl, ?_⟩) ?_ ?_
            rotate_left
            ·intro w'
             go_simp
             with_reducible rfl
            rotate_left
            ·simp only [aq_]
             rfl
            refine pure_ (i := 2) (N := some 62) (v := ?_) (a' := ?_) q101_18 rfl rfl (any_of HT_.out (by kernel_rfl)) (fun _ _ _ h => h) (Or.inl ⟨by rfl, ?_⟩) ?_ ?_
            rotate_left
            ·intro w'
             go_simp
             with_reducible rfl
            rotate_left
            ·simp only [aq_]
             rfl
            refine pure_ (i := 3) (N := some 63) (v := ?_) (a' := ?_) q101_19 rfl rfl (any_of HT_.out (by kernel_rfl)) (fun _ _ _ h => h) (Or.inl ⟨by rfl, ?_⟩) ?_ ?_
            rotate_left
            ·intro w'
             go_simp
             with_reducible rfl
            rotate_left
            ·simp only [aq_]
             rfl
            refine pure_ (i := 4) (N := some 64) (v := ?_) (a' := ?_) q101_20 rfl rfl (any_of HT_.out (by kernel_rfl)) (fun _ _ _ h => h) (Or.inl ⟨by rfl, ?_⟩) ?_ ?_
            rotate_left
            ·intro w'
             go_simp
             with_reducible rfl
            rotate_left
            ·simp only [aq_]
             rfl
            refine pure_ (i := 6) (N := some 66) (v := ?_) (a' := ?_) q101_21 rfl rfl (any_of HT_.out (by kernel_rfl)) (fun _ _ _ h => h) (Or.inl ⟨by rfl, ?_⟩) ?_ ?_
            rotate_left
            ·intro w'
             go_simp
             with_reducible rfl
            rotate_left
            ·simp only [aq_]
             rfl
            refine pure_ (i := 7) (N := some 67) (v := ?_) (a' := ?_) q101_22 rfl rfl (any_of HT_.out (by kernel_rfl)) (fun _ _ _ h => h) (Or.inl ⟨by rfl, ?_⟩) ?_ ?_
            rotate_left
            ·intro w'
             go_simp
             with_reducible rfl
            rotate_left
            ·simp only [aq_]
             rfl
            refine pure_ (i := 8) (N := some 68) (v := ?_) (a' := ?_) q101_23 rfl rfl (any_of HT_.out (by kernel_rfl)) (fun _ _ _ h => h) (Or.inl ⟨by rfl, ?_⟩) ?_ ?_
            rotate_left
            ·intro w'
             go_simp
             with_reducible rfl
            rotate_left
            ·simp only [aq_]
             rfl
            refine pure_ (i := 9) (N := some 69) (v := ?_) (a' := ?_) q101_24 rfl rfl (any_of HT_.out (by kernel_rfl)) (fun _ _ _ h => h) (Or.inl ⟨by rfl, ?_⟩) ?_ ?_
            rotate_left
            ·intro w'
             go_simp
             with_reducible rfl
            rotate_left
            ·simp only [aq_]
             rfl
            refine take_ (i := 5) (N := some 65) (v := ?_) (a' := ?_) q101_25 rfl rfl (take_ofW HT_.out HW_.out (by kernel_rfl)) (fun _ _ _ h => h) (Or.inl ⟨by rfl, ?_⟩) hHeld ?_ ?_
            rotate_left
            ·rintro w' ⟨s0, s1, s2, s3, s4, s5⟩
             go_simp
             with_reducible rfl
            rotate_left
            ·simp only [aq_]
             rfl
            refine take_ (i := 10) (N := some 70) (v := ?_) (a' := ?_) q101_26 rfl rfl (take_ofW HT_.out HW_.out (by kernel_rfl)) (fun _ _ _ h => h) (Or.inl ⟨by rfl, ?_⟩) hHeld ?_ ?_
            rotate_left
            ·rintro w' ⟨s0, s1, s2, s3, s4, s5⟩
             go_simp
             with_reducible rfl
            rotate_left
            ·simp only [aq_]
             rfl
            refine pure_ (i := 11) (N := some 71) (v := ?_) (a' := ?_) q101_27 rfl rfl (any_of HT_.out (by kernel_rfl)) (fun _ _ _ h => h) (Or.inl ⟨by rfl, ?_⟩) ?_ ?_
            rotate_left
            ·intro w'
             go_simp
             with_reducible rfl
            rotate_left
            ·simp only [aq_]
             rfl
            refine last_ (i := 12) (N := none) q101_28 rfl rfl (one_of HT_.out (by kernel_rfl)) (by decide) (fun K hK => ?_)
            refine skip_ (w1 := ?_) (by rfl) rfl ?_ ?_
            rotate_left
            ·go_simp
             rfl
            refine hK.out _ _ ?_
            clear hK K
            refine done_ (done_of HT_.out (by kernel_rfl)) ?_
            try go_wp2
            go_roundg k2
            case measure => have := HK1.out; have := HK2.out; omega
            case rel => exact ⟨(y399), (wrap64 (x13_2 + 1)), (by first | rfl | (simp; done) | (simp [*]; done)), H', ⟨by have := HK1.out; have := HK2.out; omega⟩, ⟨by (with_reducible repeat (first | apply Kd.R_alloc | apply Kd.R_drewN | apply Kd.R_drew)); exact HQ34.out⟩, ⟨by (with_reducible repeat (first | apply Kd.R_alloc | apply Kd.R_drewN | apply Kd.R_drew)); exact Kd.R_mono (Kd.R_far (p := ⟨go31, (((rd_T203 t394 x13_2).f0) : Int).toNat, none⟩) (Kd.R_types HO_12.out GG31.out (by decide)) (fun _ hk => hk.2) (.int .i64 ((rd_T203 t394 x13_2).f2))) (fun _ hk => trivial)⟩, ⟨by repeat (first | (with_reducible first | exact HB.out | apply below_alloc | apply pw_below_drewN | apply below_drew1 | refine below_set ?_ GB31.out) | exact HB.out)⟩⟩
           ·rw [if_neg c30] at H
            exact absurd H (by simp)
          ·rw [if_neg c29] at H
           exact absurd H (by simp)
         ·rw [if_neg c28] at H
          exact absurd H (by simp)
        ·rw [if_neg c27] at H
         have c27b0 : decide (x13_2 < (t394.length : Int)) = false := decide_eq_false c27
         clear c27
         replace H := Option.bind_eq_some_iff.mp H
         obtain ⟨t400, A350, H⟩ := H
         replace H : (some t400) = some r := H
         have A35 := Aside0.mk A350
         clear A350
         obtain rfl := Option.some.inj H
         obtain ⟨Ao36, co36, eo36⟩ := Kd.R_slice HO_12.out
         subst eo36
         obtain ⟨Ao37, co37, eo37⟩ := Kd.R_slice HO_9.out
         subst eo37
         go_wp2_with (first | ((with_reducible refine gate_callee (f := 199) rfl ?_); refine goesL_ (some 75) rfl rfl Try.func199 (by kernel_rfl) rfl #[.slice A0 l0.length c0, .slice Ao37 x9_2.length co37, .int .i64 a2] rfl (by (try simp only [List.map_toArray, List.map_cons, List.map_nil]); first | done | rfl | (simp only [List.length_drop, List.length_take]; rfl)) ?_; (with_reducible refine (spec_l2Of.calls k2 _ _ l0 _ _ x9_2 a2 t400 _ ?side1 ?side2 ?side3 ?side4 A35.out).mono ?_); (case side1 => repeat (first | exact (Kd.C_below HR0.out HB.out) | (with_reducible refine Kd.C_alloc ?_ _) | (with_reducible refine Kd.C_drewN ?_ _) | (with_reducible refine Kd.C_drew ?_))); (case side2 => exact HC0.out); (case side3 => repeat (first | exact (Kd.R_reads' HO_9.out).2.2 | (with_reducible refine Kd.C_alloc ?_ _) | (with_reducible refine Kd.C_drewN ?_ _) | (with_reducible refine Kd.C_drew ?_))); (case side4 => exact (Kd.R_reads' HO_9.out).2.1); rintro e w38 ⟨rfl, hb⟩; refine ⟨_, rfl, ?_⟩; have n0_ := Aside0.mk (Kd.R_below (by (with_reducible repeat (first | apply Kd.R_alloc | apply Kd.R_drewN | apply Kd.R_drew)); exact HO_9.out) hb); have n1_ := Aside0.mk (Kd.R_below (by (with_reducible repeat (first | apply Kd.R_alloc | apply Kd.R_drewN | apply Kd.R_drew)); exact HO_12.out) hb); have n2_ := Aside0.mk (below_step (by repeat (first | (with_reducible first | exact HB.out | apply below_alloc | apply pw_below_drewN | apply below_drew1) | exact HB.out)) hb); clear HO_9; clear HO_12; clear HB; have HO_9 := n0_; have HO_12 := n1_; have HB := n2_; clear n0_ n1_ n2_; (try clear hb); (try clear hb2); (try clear hk); (try clear hi)))
         go_ret
         exact ⟨by first | rfl | (simp [errW_none, errW_some] <;> rfl) | (simp [*, errW_none, errW_some] <;> rfl), by repeat (first | (with_reducible first | exact HB.out | apply below_alloc | apply pw_below_drewN | apply below_drew1) | exact HB.out)⟩
  ·rw [if_neg c6] at H
   exact absurd H (by simp)
 ·rw [if_neg c5] at H
  exact absurd H (by simp)

end Go.Proofs.Ytnelkodgjfjpdaa.X
