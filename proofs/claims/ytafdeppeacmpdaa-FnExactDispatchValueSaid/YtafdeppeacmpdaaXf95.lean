-- Written by a program of this session (wip/gen/xp.py, over the kit's printer). Not trusted: Lean checks it.
import Derived.Test.YtafdeppeacmpdaaX0
import Derived.Test.YtafdeppeacmpdaaXf76
namespace Go.Proofs.Ytafdeppeacmpdaa.X
open Go.RowKit Go.Proofs.YtafdeppeacmpdaaW.PrintWords Go.Proofs.YtafdeppeacmpdaaW.PrintLast Go.Proofs.YtafdeppeacmpdaaW.PrintMore
attribute [local go_sem] max2_int min2_int max_two min_two max_three min_three max_four min_four   -- for this text's walks alone
set_option linter.unusedVariables false
set_option linter.unusedSimpArgs false

/-! ### spec_l12Ends: function 95 -/
abbrev q95_0 : Array Bool := #[false, false, false, false, false, false, false, false, false, false, false, false, false, false, false]
abbrev q95_6 : Array Bool := #[true, true, true, true, false, true, false, true, false, false, false, false, false, false, false]
abbrev q95_7 : Array Bool := #[true, true, true, true, true, true, false, true, false, false, false, false, false, false, false]
abbrev q95_8 : Array Bool := #[true, true, true, true, true, true, true, true, false, false, false, false, false, false, false]
abbrev q95_9 : Array Bool := #[true, true, true, true, true, true, true, true, true, false, false, false, false, false, false]
abbrev q95_12 : Array Bool := #[true, true, true, true, true, true, true, true, true, true, true, true, false, false, false]
abbrev q95_15 : Array Bool := #[true, true, true, true, true, true, true, true, true, true, true, true, true, true, true]
mutual
def spec_l12Ends.l0 : Nat → List Int → Int → Int → Int → Int → List (S137) → List (S135) → Option (List Int)
 | 0, _, _, _, _, _, _, _ => none
 | k + 1, x3, x4, x505000, x505001, x505002, x505003, x505004 => if x4 < (x505003.length : Int) then (if x3.length < 17592186044416 then (spec_l12Ends.l0 k (x3 ++ [(-1)]) (wrap64 (x4 + 1)) x505000 x505001 x505002 x505003 x505004) else (none)) else (spec_l12Ends.l1 k x3 0 x505000 x505001 x505002 x505003 x505004)
def spec_l12Ends.l1 : Nat → List Int → Int → Int → Int → Int → List (S137) → List (S135) → Option (List Int)
 | 0, _, _, _, _, _, _, _ => none
 | k + 1, x3, x5, x505000, x505001, x505002, x505003, x505004 => if x5 < (x505004.length : Int) then (if 0 ≤ x5 then (if 0 ≤ ((rd_T135 x505004 x5).f0) then (if ((rd_T135 x505004 x5).f0) < (x505003.length : Int) then (if ((rd_T135 x505004 x5).f0) < (x3.length : Int) then (spec_l12Ends.l1 k (x3.set (((rd_T135 x505004 x5).f0) : Int).toNat (wrap64 (((rd_T135 x505004 x5).f2) + ((rd_T137 x505003 ((rd_T135 x505004 x5).f0)).f0)))) (wrap64 (x5 + 1)) x505000 x505001 x505002 x505003 x505004) else (none)) else (none)) else (none)) else (none)) else (some x3)
end
def spec_l12Ends.f (k : Nat) (a0_0 : Int) (a0_1 : Int) (a0_2 : Int) (l0_3 : List (S137)) (l0_4 : List (S135)) : Option (List Int) := spec_l12Ends.l0 k (([] : List Int)) 0 a0_0 a0_1 a0_2 l0_3 l0_4
theorem spec_l12Ends.mono_l : ∀ k, (∀ y0 y1 y2 y3 y4 y5 y6, LeO (spec_l12Ends.l0 k y0 y1 y2 y3 y4 y5 y6) (spec_l12Ends.l0 (k + 1) y0 y1 y2 y3 y4 y5 y6)) ∧ (∀ y0 y1 y2 y3 y4 y5 y6, LeO (spec_l12Ends.l1 k y0 y1 y2 y3 y4 y5 y6) (spec_l12Ends.l1 (k + 1) y0 y1 y2 y3 y4 y5 y6))
 | 0 => ⟨fun _ _ _ _ _ _ _ r h => by simp [spec_l12Ends.l0] at h, fun _ _ _ _ _ _ _ r h => by simp [spec_l12Ends.l1] at h⟩
 | k + 1 => by
  obtain ⟨ih0, ih1⟩ := spec_l12Ends.mono_l k
  refine ⟨?_, ?_⟩
  ·intro y0 y1 y2 y3 y4 y5 y6
   unfold spec_l12Ends.l0
   repeat' first
   | (with_reducible exact ih0 _ _ _ _ _ _ _)
   | (with_reducible exact ih1 _ _ _ _ _ _ _)
   | (with_reducible exact LeO.refl _)
   | (with_reducible exact LeO.none _)
   | (with_reducible refine LeO.ite ?_ ?_)
   | (with_reducible refine LeO.bind ?_ (fun _ => ?_))
   | exact ih0 _ _ _ _ _ _ _
   | exact ih1 _ _ _ _ _ _ _
   | exact LeO.none _
   | refine LeO.ite ?_ ?_
   | refine LeO.bind ?_ (fun _ => ?_)
  ·intro y0 y1 y2 y3 y4 y5 y6
   unfold spec_l12Ends.l1
   repeat' first
   | (with_reducible exact ih0 _ _ _ _ _ _ _)
   | (with_reducible exact ih1 _ _ _ _ _ _ _)
   | (with_reducible exact LeO.refl _)
   | (with_reducible exact LeO.none _)
   | (with_reducible refine LeO.ite ?_ ?_)
   | (with_reducible refine LeO.bind ?_ (fun _ => ?_))
   | exact ih0 _ _ _ _ _ _ _
   | exact ih1 _ _ _ _ _ _ _
   | exact LeO.none _
   | refine LeO.ite ?_ ?_
   | refine LeO.bind ?_ (fun _ => ?_)
theorem spec_l12Ends.mono : ∀ a0 a1 a2 a3 a4 k, LeO (spec_l12Ends.f k a0 a1 a2 a3 a4) (spec_l12Ends.f (k + 1) a0 a1 a2 a3 a4) := by
 intro a0 a1 a2 a3 a4 k
 obtain ⟨ih0, ih1⟩ := spec_l12Ends.mono_l k
 unfold spec_l12Ends.f
 repeat' first
   | (with_reducible exact ih0 _ _ _ _ _ _ _)
   | (with_reducible exact ih1 _ _ _ _ _ _ _)
   | (with_reducible exact LeO.refl _)
   | (with_reducible exact LeO.none _)
   | (with_reducible refine LeO.ite ?_ ?_)
   | (with_reducible refine LeO.bind ?_ (fun _ => ?_))
   | exact ih0 _ _ _ _ _ _ _
   | exact ih1 _ _ _ _ _ _ _
   | exact LeO.none _
   | refine LeO.ite ?_ ?_
   | refine LeO.bind ?_ (fun _ => ?_)
def spec_l12Ends.T10 : Bool × List (List Nat × List Nat) := (true, [([], []), ([], []), ([1], [1]), ([], []), ([3], [3]), ([], []), ([5], [5]), ([], []), ([7], [7]), ([6, 8], [6, 8]), ([9], [9]), ([10], [10]), ([4, 11], [4, 11]), ([0, 2, 0, 1, 2, 3, 4, 5, 6, 7, 8, 9, 10, 11, 12], [0, 2]), ([13, 12, 0, 1, 2, 3, 4, 5, 6, 7, 8, 9, 10, 11, 12], [12, 13])])
def spec_l12Ends.B10 : List Nat := [0, 0, 2, 0, 8, 0, 32, 0, 128, 480, 992, 2016, 4088, 8191, 16383]
theorem spec_l12Ends.tab10 : rtab .any (opsOf Try.f95 10) = spec_l12Ends.T10 := by kernel_rfl
theorem spec_l12Ends.bits10 : waitsOk spec_l12Ends.T10.2 spec_l12Ends.B10 = true := by kernel_rfl
set_option maxHeartbeats 8000000 in
set_option maxRecDepth 100000 in
theorem spec_l12Ends.calls (k : Nat) (a0_0 : Int) (a0_1 : Int) (a0_2 : Int) (A0_3 : Option Addr) (c0_3 : Nat) (l0_3 : List (S137)) (A0_4 : Option Addr) (c0_4 : Nat) (l0_4 : List (S135)) (r : List Int) (w : World) (hr0_3 : Kd.C k137 w A0_3 l0_3.length l0_3) (hc0_3 : l0_3.length ≤ c0_3) (hr0_4 : Kd.C k135 w A0_4 l0_4.length l0_4) (hc0_4 : l0_4.length ≤ c0_4) (h : spec_l12Ends.f k a0_0 a0_1 a0_2 l0_3 l0_4 = some r) :
  Calls Try.prog 95 #[.agg #[.int .i64 a0_0, .int .i64 a0_1, .int .i64 a0_2, .slice A0_3 l0_3.length c0_3, .slice A0_4 l0_4.length c0_4]] w fun e w' => ∃ v0_ : Value, e = .returned (v0_) ∧ Kd.R (Kd.int .i64) 3 w' w.heap.size (fun _ => True) v0_ r ∧ Below w.heap.size w w' := by
 have hu25 := Try.underlying25
 have hu135 := Try.underlying135
 have HR0_3 := Aside0.mk hr0_3
 have HC0_3 := Aside0.mk hc0_3
 clear hr0_3 hc0_3
 have HR0_4 := Aside0.mk hr0_4
 have HC0_4 := Aside0.mk hc0_4
 clear hr0_4 hc0_4
 have HB := Aside0.mk (Below.refl w.heap.size w)
 have H : (spec_l12Ends.l0 k (([] : List Int)) 0 a0_0 a0_1 a0_2 l0_3 l0_4) = some r := h
 clear h
 obtain ⟨y505, hy505⟩ : ∃ y_ : List Int, y_ = (([] : List Int)) := ⟨_, rfl⟩
 replace H : (spec_l12Ends.l0 k y505 0 a0_0 a0_1 a0_2 l0_3 l0_4) = some r := by first | (rw [hy505]; with_reducible exact H) | (have H2_ := (Option.bind_some _ _).symm.trans H; rw [hy505]; with_reducible exact H2_) | (have H2_ := (Option.bind_some _ _).symm.trans H; with_reducible exact H2_) | with_reducible exact H | (rw [hy505]; exact H) | exact H
 have Ny505 := Aside0.mk hy505
 clear hy505
 have H' := Aside0.mk H
 clear H
 go_enter Try.func95, Try.ntmps95
 go_wp2_with (first | ((with_reducible refine gate_dst (N := 1) rfl ?_); refine box_event ?hg (N := 1) ?hd (cs := #[.int .i64 a0_0, .int .i64 a0_1, .int .i64 a0_2, .slice A0_3 l0_3.length c0_3, .slice A0_4 l0_4.length c0_4]) (t := 25) ?hr ?_; (case hd => rfl); (case hg => rfl); (case hr => first | (go_simp; done) | (go_simp; rfl)); intro gb504 hg w2 hbox hb; have n0_ := Aside0.mk (below_step (bw HB.out) hb); have n1_ := Aside0.mk (hbox); have n2_ := ge_ hg HB.out; have n3_ := ge_ hg HB.out; clear HB; have HB := n0_; have BK504 := n1_; have GW504 := n2_; have GE504 := n3_; clear n0_ n1_ n2_ n3_; clear hb hbox hg) | ((with_reducible refine gate_dst (N := 7) rfl ?_); refine Kd.R_lit (Kd.int .i64) _ 3 ?hg (N := 7) ?hd (xs := ([] : List Int)) (inner := []) (ok := fun _ => True) (okp := fun _ => True) ?hr ?hp (fun _ hk => hk) trivial (Below.refl _ _) (Nat.le_refl _) (by simp) ?_; (case hd => rfl); (case hg => rfl); (case hr => first | (go_simp; done) | (go_simp; rfl)); (case hp => exact (Reps.none _ _)); intro v506 w3 ho4 hb hg_ hnew_; clear hg_ hnew_; (first | rw [← Ny505.out] at ho4 | (simp only [Int.reduceToNat] at ho4; rw [← Ny505.out] at ho4)); have n0_ := Aside0.mk (Kd.R_lower ho4 (below_size (by repeat (first | (with_reducible first | exact bw HB.out | refine bset ?_ (by assumption) | apply below_alloc | apply pw_below_drewN | apply below_drew1) | exact HB.out)))); have n1_ := Aside0.mk (blk_below (bs BK504.out) hb); have n2_ := Aside0.mk (below_step (by repeat (first | (with_reducible first | exact bw HB.out | refine bset ?_ (by assumption) | apply below_alloc | apply pw_below_drewN | apply below_drew1) | exact HB.out)) hb); clear BK504; clear HB; have HO507 := n0_; have BK504 := n1_; have HB := n2_; clear n0_ n1_ n2_; clear hb ho4))
 go_loopg [3, 4] k (fun kq v3 v4 w' => ∃ (x3_1 : List Int) (x4_1 : Int), v4 = .int .i64 x4_1 ∧ Aside0 (spec_l12Ends.l0 kq x3_1 x4_1 a0_0 a0_1 a0_2 l0_3 l0_4 = some r) ∧ Aside0 (kq ≤ k) ∧ Aside0 (Kd.R (Kd.int .i64) 3 w' w.heap.size (fun _ => True) v3 x3_1) ∧ Aside0 (w'.heap[gb504]? = some (.cells #[.int .i64 a0_0, .int .i64 a0_1, .int .i64 a0_2, (.slice A0_3 l0_3.length c0_3), (.slice A0_4 l0_4.length c0_4)] 25 (0, 0))) ∧ Aside0 (Below w.heap.size w w'))
 case atStart => exact ⟨(y505), (0), (by first | rfl | (simp; done) | (simp [*]; done)), H', ⟨Nat.le_refl _⟩, ⟨bR HO507.out⟩, ⟨bs BK504.out⟩, ⟨by repeat (first | (with_reducible first | exact bw HB.out | refine bset ?_ (by assumption) | apply below_alloc | apply pw_below_drewN | apply below_drew1) | exact HB.out)⟩⟩
 case round =>
  clear H'
  try clear p2
  obtain ⟨x3_1, x4_1, rfl, HA, HK1, HO_3, BK504, HB⟩ := hrel
  cases gk with
  | zero => exact absurd HA.out (by simp [spec_l12Ends.l0])
  | succ k1 =>
   have H := HA.out
   clear HA
   simp only [spec_l12Ends.l0] at H
   by_cases c5 : x4_1 < (l0_3.length : Int)
   ·rw [if_pos c5] at H
    have c5b0 : decide (x4_1 < (l0_3.length : Int)) = true := decide_eq_true c5
    clear c5
    by_cases c6 : x3_1.length < 17592186044416
    ·rw [if_pos c6] at H
     have LMc6 := Aside0.mk c6
     clear c6
     obtain ⟨y508, hy508⟩ : ∃ y_ : List Int, y_ = (x3_1 ++ [(-1)]) := ⟨_, rfl⟩
     replace H : (spec_l12Ends.l0 k1 y508 (wrap64 (x4_1 + 1)) a0_0 a0_1 a0_2 l0_3 l0_4) = some r := by first | (rw [hy508]; with_reducible exact H) | (have H2_ := (Option.bind_some _ _).symm.trans H; rw [hy508]; with_reducible exact H2_) | (have H2_ := (Option.bind_some _ _).symm.trans H; with_reducible exact H2_) | with_reducible exact H | (rw [hy508]; exact H) | exact H
     have Ny508 := Aside0.mk hy508
     clear hy508
     have H' := Aside0.mk H
     clear H
     have hcz7_0 := b5_0 BK504.out
     have hcz7_1 := b5_1 BK504.out
     have hcz7_2 := b5_2 BK504.out
     have hcz7_3 := b5_3 BK504.out
     have hcz7_4 := b5_4 BK504.out
     have hfz7_0 := blk_frozen BK504.out 0
     have hfz7_1 := blk_frozen BK504.out 1
     have hfz7_2 := blk_frozen BK504.out 2
     have hfz7_3 := blk_frozen BK504.out 3
     have hfz7_4 := blk_frozen BK504.out 4
     go_wp2_with (first | ((with_reducible refine gate_builtin (b := .append) (xs := #[.tmp 15, .tmp 16]) rfl ?_); at_builtin; refine Kd.R_append (Kd.int .i64) (w0 := w) w.heap.size rfl (.tmp 15) (.tmp 16) 61 3 (.int .i64 0) 8 rfl Try.underlying61 info3 rfl (by decide) (by omega) u3 x3_1 (-1) [.int .i64 (-1)] (fun _ => True) (fun _ => False) rfl rfl ?aP (fun _ hk => hk.elim) ?aF ?aO ?aB ?aS ?aL ?_; (case aP => exact rfl); (case aB => exact (by repeat (first | (with_reducible first | exact bw HB.out | refine bset ?_ (by assumption) | apply below_alloc | apply pw_below_drewN | apply below_drew1) | exact HB.out))); (case aF => exact (fun _ _ => trivial)); (case aO => exact (bR HO_3.out)); (case aS => exact (below_size (by repeat (first | (with_reducible first | exact bw HB.out | refine bset ?_ (by assumption) | apply below_alloc | apply pw_below_drewN | apply below_drew1) | exact HB.out)))); (case aL => have := LMc6.out; omega); intro v509 w8 ho hb hg hat; rw [← Ny508.out] at ho; have n0_ := Aside0.mk (blk_grown (bs BK504.out) hg (Kd.R_ne HO_3.out BK504.out (by decide))); have n1_ := Aside0.mk (hb); have n2_ := Aside0.mk (ho); clear BK504; clear HB; clear HO_3; have BK504 := n0_; have HB := n1_; have HO510 := n2_; clear n0_ n1_ n2_; clear ho hb hg hat))
     go_roundg k1
     case measure => have := HK1.out; omega
     case rel => exact ⟨(y508), (wrap64 (x4_1 + 1)), (by first | rfl | (simp; done) | (simp [*]; done)), H', ⟨by have := HK1.out; omega⟩, ⟨bR HO510.out⟩, ⟨bs BK504.out⟩, ⟨by repeat (first | (with_reducible first | exact bw HB.out | refine bset ?_ (by assumption) | apply below_alloc | apply pw_below_drewN | apply below_drew1) | exact HB.out)⟩⟩
    ·rw [if_neg c6] at H
     exact absurd H (by simp)
   ·rw [if_neg c5] at H
    have c5b0 : decide (x4_1 < (l0_3.length : Int)) = false := decide_eq_false c5
    clear c5
    have H' := Aside0.mk H
    clear H
    have hcz9_0 := b5_0 BK504.out
    have hcz9_1 := b5_1 BK504.out
    have hcz9_2 := b5_2 BK504.out
    have hcz9_3 := b5_3 BK504.out
    have hcz9_4 := b5_4 BK504.out
    have hfz9_0 := blk_frozen BK504.out 0
    have hfz9_1 := blk_frozen BK504.out 1
    have hfz9_2 := blk_frozen BK504.out 2
    have hfz9_3 := blk_frozen BK504.out 3
    have hfz9_4 := blk_frozen BK504.out 4
    go_wp2
    go_loopg [5] k1 (fun kq v5 w' => ∃ (x3_2 : List Int) (x5_2 : Int), v5 = .int .i64 x5_2 ∧ Aside0 (spec_l12Ends.l1 kq x3_2 x5_2 a0_0 a0_1 a0_2 l0_3 l0_4 = some r) ∧ Aside0 (kq ≤ k1) ∧ Aside0 (Kd.R (Kd.int .i64) 3 w' w.heap.size (fun _ => True) u3 x3_2) ∧ Aside0 (w'.heap[gb504]? = some (.cells #[.int .i64 a0_0, .int .i64 a0_1, .int .i64 a0_2, (.slice A0_3 l0_3.length c0_3), (.slice A0_4 l0_4.length c0_4)] 25 (0, 0))) ∧ Aside0 (Below w.heap.size w w'))
    case atStart => exact ⟨(x3_1), (0), (by first | rfl | (simp; done) | (simp [*]; done)), H', ⟨Nat.le_refl _⟩, ⟨bR HO_3.out⟩, ⟨bs BK504.out⟩, ⟨by repeat (first | (with_reducible first | exact bw HB.out | refine bset ?_ (by assumption) | apply below_alloc | apply pw_below_drewN | apply below_drew1) | exact HB.out)⟩⟩
    case round =>
     clear H'
     try clear p2
     try clear c5
     try clear c5b0
     try clear c6
     try clear p6
     try clear c9
     try clear hcz7_0
     try clear hcz7_1
     try clear hcz7_2
     try clear hcz7_3
     try clear hcz7_4
     try clear hcz9_0
     try clear hcz9_1
     try clear hcz9_2
     try clear hcz9_3
     try clear hcz9_4
     try clear hfz7_0
     try clear hfz7_1
     try clear hfz7_2
     try clear hfz7_3
     try clear hfz7_4
     try clear hfz9_0
     try clear hfz9_1
     try clear hfz9_2
     try clear hfz9_3
     try clear hfz9_4
     try clear p2
     obtain ⟨x3_2, x5_2, rfl, HA, HK2, HO_3, BK504, HB⟩ := hrel
     cases gk with
     | zero => exact absurd HA.out (by simp [spec_l12Ends.l1])
     | succ k2 =>
      have H := HA.out
      clear HA
      simp only [spec_l12Ends.l1] at H
      by_cases c10 : x5_2 < (l0_4.length : Int)
      ·rw [if_pos c10] at H
       have c10b0 : decide (x5_2 < (l0_4.length : Int)) = true := decide_eq_true c10
       clear c10
       by_cases c11 : 0 ≤ x5_2
       ·rw [if_pos c11] at H
        have c11b0 : decide (0 ≤ x5_2) = true := decide_eq_true c11
        clear c11
        by_cases c12 : 0 ≤ ((rd_T135 l0_4 x5_2).f0)
        ·rw [if_pos c12] at H
         have c12b0 : decide (0 ≤ ((rd_T135 l0_4 x5_2).f0)) = true := decide_eq_true c12
         clear c12
         by_cases c13 : ((rd_T135 l0_4 x5_2).f0) < (l0_3.length : Int)
         ·rw [if_pos c13] at H
          have c13b0 : decide (((rd_T135 l0_4 x5_2).f0) < (l0_3.length : Int)) = true := decide_eq_true c13
          clear c13
          by_cases c14 : ((rd_T135 l0_4 x5_2).f0) < (x3_2.length : Int)
          ·rw [if_pos c14] at H
           have c14b0 : decide (((rd_T135 l0_4 x5_2).f0) < (x3_2.length : Int)) = true := decide_eq_true c14
           clear c14
           obtain ⟨y514, hy514⟩ : ∃ y_ : List Int, y_ = (x3_2.set (((rd_T135 l0_4 x5_2).f0) : Int).toNat (wrap64 (((rd_T135 l0_4 x5_2).f2) + ((rd_T137 l0_3 ((rd_T135 l0_4 x5_2).f0)).f0)))) := ⟨_, rfl⟩
           replace H : (spec_l12Ends.l1 k2 y514 (wrap64 (x5_2 + 1)) a0_0 a0_1 a0_2 l0_3 l0_4) = some r := by first | (rw [hy514]; with_reducible exact H) | (have H2_ := (Option.bind_some _ _).symm.trans H; rw [hy514]; with_reducible exact H2_) | (have H2_ := (Option.bind_some _ _).symm.trans H; with_reducible exact H2_) | with_reducible exact H | (rw [hy514]; exact H) | exact H
           have Ny514 := Aside0.mk hy514
           clear hy514
           have H' := Aside0.mk H
           clear H
           have hcz16_0 := b5_0 BK504.out
           have hcz16_1 := b5_1 BK504.out
           have hcz16_2 := b5_2 BK504.out
           have hcz16_3 := b5_3 BK504.out
           have hcz16_4 := b5_4 BK504.out
           have hfz16_0 := blk_frozen BK504.out 0
           have hfz16_1 := blk_frozen BK504.out 1
           have hfz16_2 := blk_frozen BK504.out 2
           have hfz16_3 := blk_frozen BK504.out 3
           have hfz16_4 := blk_frozen BK504.out 4
           have p511 : 0 ≤ (x5_2 : Int) := of_decide_eq_true (by first | (with_reducible assumption) | assumption)
           have q511 : x5_2 < (l0_4.length : Int) := of_decide_eq_true (by first | (with_reducible assumption) | assumption)
           obtain ⟨ad511, e511, hx511_0, hx511_1, hx511_2⟩ := at_T135 HR0_4.out x5_2 p511 q511
           cases e511
           replace hx511_0 := (HB.out.cell (World.block_lt_of_cell? w _ hx511_0)).trans hx511_0
           replace hx511_1 := (HB.out.cell (World.block_lt_of_cell? w _ hx511_1)).trans hx511_1
           replace hx511_2 := (HB.out.cell (World.block_lt_of_cell? w _ hx511_2)).trans hx511_2
           replace p511 := eq_true p511
           replace q511 := eq_true q511
           try go_wp2_with (first | ((with_reducible refine gate_dst (N := 6) rfl ?_); refine box_event ?hg (N := 6) ?hd (cs := #[.int .i64 0, .int .i64 0, .int .i64 0]) (t := 135) ?hr ?_; (case hd => rfl); (case hg => rfl); (case hr => first | (go_simp; done) | (go_simp; rfl)); intro gb512 hg w17 hbox hb; have n0_ := Aside0.mk (Kd.R_below (bR HO_3.out) hb); have n1_ := Aside0.mk (blk_below (bs BK504.out) hb); have n2_ := Aside0.mk (below_step (by repeat (first | (with_reducible first | exact bw HB.out | refine bset ?_ (by assumption) | apply below_alloc | apply pw_below_drewN | apply below_drew1) | exact HB.out)) hb); have n3_ := Aside0.mk (hbox); have n4_ := Aside0.mk ((by rw [hg]; exact (below_size (by repeat (first | (with_reducible first | exact bw HB.out | refine bset ?_ (by assumption) | apply below_alloc | apply pw_below_drewN | apply below_drew1) | exact HB.out))) : w.heap.size ≤ gb512)); have n5_ := Aside0.mk ((by rw [hg]; exact (below_size (by repeat (first | (with_reducible first | exact bw HB.out | refine bset ?_ (by assumption) | apply below_alloc | apply pw_below_drewN | apply below_drew1) | exact HB.out))) : w.heap.size ≤ gb512)); have n6_ := ne_ hg BK504.out; have n7_ := en_ hg BK504.out; clear HO_3; clear BK504; clear HB; have HO_3 := n0_; have BK504 := n1_; have HB := n2_; have BK512 := n3_; have GW512 := n4_; have GE512 := n5_; have NB504_512 := n6_; have NB512_504 := n7_; clear n0_ n1_ n2_ n3_ n4_ n5_ n6_ n7_; clear hb hbox hg; have hnb18 := NB512_504.out; have hnc18 := NB504_512.out; have hcz19_0 := b3_0 BK512.out; have hcz19_1 := b3_1 BK512.out; have hcz19_2 := b3_2 BK512.out; have hfz19_0 := blk_frozen BK512.out 0; have hfz19_1 := blk_frozen BK512.out 1; have hfz19_2 := blk_frozen BK512.out 2))
           have n0_ : Aside0 (Kd.R (Kd.int .i64) 3 (((w17.setCell ⟨gb512, 0, none⟩ (.int .i64 ((rd_T135 l0_4 x5_2).f0))).setCell ⟨gb512, 1, none⟩ (.int .i64 ((rd_T135 l0_4 x5_2).f1))).setCell ⟨gb512, 2, none⟩ (.int .i64 ((rd_T135 l0_4 x5_2).f2))) w.heap.size (fun _ => True) u3 x3_2) := ⟨by (with_reducible repeat (first | apply Kd.R_alloc | apply Kd.R_drewN | apply Kd.R_drew)); exact Kd.R_mono (Kd.R_far (p := ⟨gb512, 2, none⟩) (Kd.R_far (p := ⟨gb512, 1, none⟩) (Kd.R_far (p := ⟨gb512, 0, none⟩) (Kd.R_types HO_3.out BK512.out (by decide)) (fun _ hk => hk.2) (.int .i64 ((rd_T135 l0_4 x5_2).f0))) (fun _ hk => hk.2) (.int .i64 ((rd_T135 l0_4 x5_2).f1))) (fun _ hk => hk.2) (.int .i64 ((rd_T135 l0_4 x5_2).f2))) (fun _ hk => trivial)⟩
           have n1_ : Aside0 ((((w17.setCell ⟨gb512, 0, none⟩ (.int .i64 ((rd_T135 l0_4 x5_2).f0))).setCell ⟨gb512, 1, none⟩ (.int .i64 ((rd_T135 l0_4 x5_2).f1))).setCell ⟨gb512, 2, none⟩ (.int .i64 ((rd_T135 l0_4 x5_2).f2))).heap[gb504]? = some (.cells #[.int .i64 a0_0, .int .i64 a0_1, .int .i64 a0_2, .slice A0_3 l0_3.length c0_3, .slice (some ad511) l0_4.length c0_4] 25 (0, 0))) := ⟨by (with_reducible repeat (first | refine blk_drewN ?_ _ | refine blk_drew ?_ | refine blk_alloc ?_ _)); refine blk_far ?_ NB504_512.out _; (with_reducible repeat (first | refine blk_drewN ?_ _ | refine blk_drew ?_ | refine blk_alloc ?_ _)); refine blk_far ?_ NB504_512.out _; (with_reducible repeat (first | refine blk_drewN ?_ _ | refine blk_drew ?_ | refine blk_alloc ?_ _)); refine blk_far ?_ NB504_512.out _; exact bs BK504.out⟩
           have n2_ : Aside0 ((((w17.setCell ⟨gb512, 0, none⟩ (.int .i64 ((rd_T135 l0_4 x5_2).f0))).setCell ⟨gb512, 1, none⟩ (.int .i64 ((rd_T135 l0_4 x5_2).f1))).setCell ⟨gb512, 2, none⟩ (.int .i64 ((rd_T135 l0_4 x5_2).f2))).heap[gb512]? = some (.cells #[.int .i64 ((rd_T135 l0_4 x5_2).f0), .int .i64 ((rd_T135 l0_4 x5_2).f1), .int .i64 ((rd_T135 l0_4 x5_2).f2)] 135 (0, 0))) := ⟨by (with_reducible repeat (first | refine blk_drewN ?_ _ | refine blk_drew ?_ | refine blk_alloc ?_ _)); refine blk_put (cs := #[.int .i64 ((rd_T135 l0_4 x5_2).f0), .int .i64 ((rd_T135 l0_4 x5_2).f1), .int .i64 0]) ?_ 2 _ rfl; (with_reducible repeat (first | refine blk_drewN ?_ _ | refine blk_drew ?_ | refine blk_alloc ?_ _)); refine blk_put (cs := #[.int .i64 ((rd_T135 l0_4 x5_2).f0), .int .i64 0, .int .i64 0]) ?_ 1 _ rfl; (with_reducible repeat (first | refine blk_drewN ?_ _ | refine blk_drew ?_ | refine blk_alloc ?_ _)); refine blk_put (cs := #[.int .i64 0, .int .i64 0, .int .i64 0]) ?_ 0 _ rfl; exact bs BK512.out⟩
           have n3_ : Aside0 (Below w.heap.size w (((w17.setCell ⟨gb512, 0, none⟩ (.int .i64 ((rd_T135 l0_4 x5_2).f0))).setCell ⟨gb512, 1, none⟩ (.int .i64 ((rd_T135 l0_4 x5_2).f1))).setCell ⟨gb512, 2, none⟩ (.int .i64 ((rd_T135 l0_4 x5_2).f2)))) := ⟨by repeat (first | (with_reducible first | exact bw HB.out | refine bset ?_ (by assumption) | apply below_alloc | apply pw_below_drewN | apply below_drew1) | exact HB.out)⟩
           (try clear HO_3)
           (try clear BK504)
           (try clear BK512)
           (try clear HB)
           (try simp only [setCell_drewN])
           generalize (((w17.setCell ⟨gb512, 0, none⟩ (.int .i64 ((rd_T135 l0_4 x5_2).f0))).setCell ⟨gb512, 1, none⟩ (.int .i64 ((rd_T135 l0_4 x5_2).f1))).setCell ⟨gb512, 2, none⟩ (.int .i64 ((rd_T135 l0_4 x5_2).f2))) = w20 at n0_ n1_ n2_ n3_ ⊢
           have HO_3 := n0_
           have BK504 := n1_
           have BK512 := n2_
           have HB := n3_
           clear n0_ n1_ n2_ n3_
           have n0_ := Aside0.mk (Kd.R_drew HO_3.out)
           have n1_ := Aside0.mk (blk_drew BK504.out)
           have n2_ := Aside0.mk (blk_drew BK512.out)
           have n3_ := Aside0.mk (below_drew1 HB.out)
           clear HO_3
           clear BK504
           clear BK512
           clear HB
           have HO_3 := n0_
           have BK504 := n1_
           have BK512 := n2_
           have HB := n3_
           clear n0_ n1_ n2_ n3_
           have p513 : 0 ≤ (((rd_T135 l0_4 x5_2).f0) : Int) := of_decide_eq_true (by first | (with_reducible assumption) | assumption)
           have q513 : ((rd_T135 l0_4 x5_2).f0) < (l0_3.length : Int) := of_decide_eq_true (by first | (with_reducible assumption) | assumption)
           obtain ⟨ad513, e513, hx513_0, hx513_1, hx513_2, hx513_3⟩ := at_T137 HR0_3.out ((rd_T135 l0_4 x5_2).f0) p513 q513
           have hw513_3 := hx513_3
           have hw513_2 := hx513_2
           have hw513_1 := hx513_1
           have hw513_0 := hx513_0
           cases e513
           replace hx513_0 := (HB.out.cell (World.block_lt_of_cell? w _ hx513_0)).trans hx513_0
           replace hx513_1 := (HB.out.cell (World.block_lt_of_cell? w _ hx513_1)).trans hx513_1
           replace hx513_2 := (HB.out.cell (World.block_lt_of_cell? w _ hx513_2)).trans hx513_2
           replace hx513_3 := (HB.out.cell (World.block_lt_of_cell? w _ hx513_3)).trans hx513_3
           replace p513 := eq_true p513
           replace q513 := eq_true q513
           have p15 : 0 ≤ (((rd_T135 l0_4 x5_2).f0) : Int) := of_decide_eq_true (by first | (with_reducible assumption) | assumption)
           have q15 : (((rd_T135 l0_4 x5_2).f0) : Int) < ((x3_2.length : Int) : Int) := of_decide_eq_true (by first | (with_reducible assumption) | assumption)
           obtain ⟨go15, co15, eo15, gb15, gl15, cl15, HG15⟩ := Kd.R_form HO_3.out (by omega)
           (first | cases eo15 | (injection eo15 with ea_ en_ ec_; (first | subst ea_ | (injection ea_ with ea_; subst ea_)); subst ec_; clear en_))
           have GB15 := Aside0.mk gb15
           have GG15 := Aside0.mk HG15
           clear gb15 gl15 HG15
           obtain ⟨hx15_0, hf15_0⟩ := Kd.R_celln 0 HO_3.out (((rd_T135 l0_4 x5_2).f0) : Int) p15 q15
           replace p15 := eq_true p15
           replace q15 := eq_true q15
           have HP22 := Kd.R_putn HO_3.out (((rd_T135 l0_4 x5_2).f0) : Int) (wrap64 (((rd_T135 l0_4 x5_2).f2) + ((rd_T137 l0_3 ((rd_T135 l0_4 x5_2).f0)).f0)))
           rw [← Ny514.out] at HP22
           have HQ22 := Aside0.mk HP22
           clear HP22
           refine start_ (n := 15) (S := fun w' => w'.cell? ⟨gb512, 0, none⟩ = some (.int .i64 ((rd_T135 l0_4 x5_2).f0)) ∧ w'.cell? ⟨gb512, 1, none⟩ = some (.int .i64 ((rd_T135 l0_4 x5_2).f1)) ∧ w'.cell? ⟨gb512, 2, none⟩ = some (.int .i64 ((rd_T135 l0_4 x5_2).f2)) ∧ w'.cell? ⟨gb504, 0, none⟩ = some (.int .i64 a0_0) ∧ w'.cell? ⟨gb504, 1, none⟩ = some (.int .i64 a0_1) ∧ w'.cell? ⟨gb504, 2, none⟩ = some (.int .i64 a0_2) ∧ w'.cell? ⟨gb504, 3, none⟩ = some (.slice (some ad513) l0_3.length c0_3) ∧ w'.cell? ⟨gb504, 4, none⟩ = some (.slice (some ad511) l0_4.length c0_4) ∧ w'.cell? (ad513.add ((((rd_T135 l0_4 x5_2).f0)).toNat * 4)) = some (.int .i64 ((rd_T137 l0_3 ((rd_T135 l0_4 x5_2).f0)).f0)) ∧ w'.cell? ⟨(ad513.add ((((rd_T135 l0_4 x5_2).f0)).toNat * 4)).block, (ad513.add ((((rd_T135 l0_4 x5_2).f0)).toNat * 4)).off + 1, none⟩ = some (.int .i64 ((rd_T137 l0_3 ((rd_T135 l0_4 x5_2).f0)).f1)) ∧ w'.cell? ⟨(ad513.add ((((rd_T135 l0_4 x5_2).f0)).toNat * 4)).block, (ad513.add ((((rd_T135 l0_4 x5_2).f0)).toNat * 4)).off + 2, none⟩ = some (.int .i64 ((rd_T137 l0_3 ((rd_T135 l0_4 x5_2).f0)).f2)) ∧ w'.cell? ⟨(ad513.add ((((rd_T135 l0_4 x5_2).f0)).toNat * 4)).block, (ad513.add ((((rd_T135 l0_4 x5_2).f0)).toNat * 4)).off + 3, none⟩ = some (.int .i64 ((rd_T137 l0_3 ((rd_T135 l0_4 x5_2).f0)).f3))) (ds := [14]) q95_0 (by kernel_rfl) rfl rfl ⟨(blk_cell BK512.out 0).trans rfl, (blk_cell BK512.out 1).trans rfl, (blk_cell BK512.out 2).trans rfl, (blk_cell BK504.out 0).trans rfl, (blk_cell BK504.out 1).trans rfl, (blk_cell BK504.out 2).trans rfl, (blk_cell BK504.out 3).trans rfl, (blk_cell BK504.out 4).trans rfl, (bcl_ HB.out hw513_0 :), (bcl_ HB.out hw513_1 :), (bcl_ HB.out hw513_2 :), (bcl_ HB.out hw513_3 :)⟩ (fun hHeld => ?_); refine with_tabW spec_l12Ends.tab10 spec_l12Ends.bits10 (fun HT_ HW_ => ?_)
           generalize w20.drew = w21 at HO_3 BK504 BK512 HB GG15 HQ22 hf15_0 hx15_0 hx513_0 hx513_1 hx513_2 hx513_3 hHeld ⊢
           refine pup_ (i := 0) (N := some 30) (v := ?_) (a' := ?_) HT_ rfl rfl (by kernel_rfl) (fun _ _ _ h => h) (Or.inl ⟨by rfl, ?_⟩) ?_ ?_
           rotate_left
           ·intro w'
            go_simp
            with_reducible rfl
           rotate_left
           ·simp only [aq_]
            rfl
           refine pup_ (i := 1) (N := some 31) (v := ?_) (a' := ?_) HT_ rfl rfl (by kernel_rfl) (fun _ _ _ h => h) (Or.inl ⟨by rfl, ?_⟩) ?_ ?_
           rotate_left
           ·intro w'
            go_simp
            with_reducible rfl
           rotate_left
           ·simp only [aq_]
            rfl
           refine pup_ (i := 3) (N := some 33) (v := ?_) (a' := ?_) HT_ rfl rfl (by kernel_rfl) (fun _ _ _ h => h) (Or.inl ⟨by rfl, ?_⟩) ?_ ?_
           rotate_left
           ·intro w'
            go_simp
            with_reducible rfl
           rotate_left
           ·simp only [aq_]
            rfl
           refine pup_ (i := 5) (N := some 35) (v := ?_) (a' := ?_) HT_ rfl rfl (by kernel_rfl) (fun _ _ _ h => h) (Or.inl ⟨by rfl, ?_⟩) ?_ ?_
           rotate_left
           ·intro w'
            go_simp
            with_reducible rfl
           rotate_left
           ·simp only [aq_]
            rfl
           refine pup_ (i := 7) (N := some 37) (v := ?_) (a' := ?_) HT_ rfl rfl (by kernel_rfl) (fun _ _ _ h => h) (Or.inl ⟨by rfl, ?_⟩) ?_ ?_
           rotate_left
           ·intro w'
            go_simp
            with_reducible rfl
           rotate_left
           ·simp only [aq_]
            rfl
           refine take_ (i := 2) (N := some 32) (v := ?_) (a' := ?_) q95_6 rfl rfl (take_ofW HT_.out HW_.out (by kernel_rfl)) (fun _ _ _ h => h) (Or.inl ⟨by rfl, ?_⟩) hHeld ?_ ?_
           rotate_left
           ·rintro w' ⟨s0, s1, s2, s3, s4, s5, s6, s7, s8, s9, s10, s11⟩
            go_simp
            with_reducible rfl
           rotate_left
           ·simp only [aq_]
            rfl
           refine take_ (i := 4) (N := some 34) (v := ?_) (a' := ?_) q95_7 rfl rfl (take_ofW HT_.out HW_.out (by kernel_rfl)) (fun _ _ _ h => h) (Or.inl ⟨by rfl, ?_⟩) hHeld ?_ ?_
           rotate_left
           ·rintro w' ⟨s0, s1, s2, s3, s4, s5, s6, s7, s8, s9, s10, s11⟩
            go_simp
            with_reducible rfl
           rotate_left
           ·simp only [aq_]
            rfl
           refine take_ (i := 6) (N := some 36) (v := ?_) (a' := ?_) q95_8 rfl rfl (take_ofW HT_.out HW_.out (by kernel_rfl)) (fun _ _ _ h => h) (Or.inl ⟨by rfl, ?_⟩) hHeld ?_ ?_
           rotate_left
           ·rintro w' ⟨s0, s1, s2, s3, s4, s5, s6, s7, s8, s9, s10, s11⟩
            go_simp
            with_reducible rfl
           rotate_left
           ·simp only [aq_]
            rfl
           refine take_ (i := 8) (N := some 38) (v := ?_) (a' := ?_) q95_9 rfl rfl (take_ofW HT_.out HW_.out (by kernel_rfl)) (fun _ _ _ h => h) (Or.inl ⟨by rfl, ?_⟩) hHeld ?_ ?_
           rotate_left
           ·rintro w' ⟨s0, s1, s2, s3, s4, s5, s6, s7, s8, s9, s10, s11⟩
            go_simp
            with_reducible rfl
           rotate_left
           ·simp only [aq_]
            rfl
           refine pup_ (i := 9) (N := some 39) (v := ?_) (a' := ?_) HT_ rfl rfl (by kernel_rfl) (fun _ _ _ h => h) (Or.inl ⟨by rfl, ?_⟩) ?_ ?_
           rotate_left
           ·intro w'
            go_simp
            with_reducible rfl
           rotate_left
           ·simp only [aq_]
            rfl
           refine pup_ (i := 10) (N := some 40) (v := ?_) (a' := ?_) HT_ rfl rfl (by kernel_rfl) (fun _ _ _ h => h) (Or.inl ⟨by rfl, ?_⟩) ?_ ?_
           rotate_left
           ·intro w'
            go_simp
            with_reducible rfl
           rotate_left
           ·simp only [aq_]
            rfl
           refine take_ (i := 11) (N := some 41) (v := ?_) (a' := ?_) q95_12 rfl rfl (take_ofW HT_.out HW_.out (by kernel_rfl)) (fun _ _ _ h => h) (Or.inl ⟨by rfl, ?_⟩) hHeld ?_ ?_
           rotate_left
           ·rintro w' ⟨s0, s1, s2, s3, s4, s5, s6, s7, s8, s9, s10, s11⟩
            go_simp
            with_reducible rfl
           rotate_left
           ·simp only [aq_]
            rfl
           refine pup_ (i := 12) (N := some 42) (v := ?_) (a' := ?_) HT_ rfl rfl (by kernel_rfl) (fun _ _ _ h => h) (Or.inl ⟨by rfl, ?_⟩) ?_ ?_
           rotate_left
           ·intro w'
            go_simp
            with_reducible rfl
           rotate_left
           ·simp only [aq_]
            rfl
           refine pup_ (i := 13) (N := some 43) (v := ?_) (a' := ?_) HT_ rfl rfl (by kernel_rfl) (fun _ _ _ h => h) (Or.inl ⟨by rfl, ?_⟩) ?_ ?_
           rotate_left
           ·intro w'
            go_simp
            with_reducible rfl
           rotate_left
           ·simp only [aq_]
            rfl
           refine last_ (i := 14) (N := none) q95_15 rfl rfl (one_of HT_.out (by kernel_rfl)) (by decide) (fun K hK => ?_)
           refine skip_ (w1 := ?_) (by rfl) rfl ?_ ?_
           rotate_left
           ·go_simp
            rfl
           refine hK.out _ _ ?_
           clear hK K
           refine done_ (done_of HT_.out (by kernel_rfl)) ?_
           try go_wp2
           go_roundg k2
           case measure => have := HK1.out; have := HK2.out; omega
           case rel => exact ⟨(y514), (wrap64 (x5_2 + 1)), (by first | rfl | (simp; done) | (simp [*]; done)), H', ⟨by have := HK1.out; have := HK2.out; omega⟩, ⟨bR HQ22.out⟩, ⟨by (with_reducible repeat (first | refine blk_drewN ?_ _ | refine blk_drew ?_ | refine blk_alloc ?_ _)); refine blk_far ?_ (by have h_ := Kd.R_ne HO_3.out BK504.out (by decide); intro e_; exact h_ (by rw [e_]; rfl)) _; exact bs BK504.out⟩, ⟨by repeat (first | (with_reducible first | exact HB.out | apply below_alloc | apply pw_below_drewN | apply below_drew1 | refine below_set ?_ GB15.out | refine below_set ?_ GE504.out | refine below_set ?_ GE512.out) | exact HB.out)⟩⟩
          ·rw [if_neg c14] at H
           exact absurd H (by simp)
         ·rw [if_neg c13] at H
          exact absurd H (by simp)
        ·rw [if_neg c12] at H
         exact absurd H (by simp)
       ·rw [if_neg c11] at H
        exact absurd H (by simp)
      ·rw [if_neg c10] at H
       have c10b0 : decide (x5_2 < (l0_4.length : Int)) = false := decide_eq_false c10
       clear c10
       obtain rfl := Option.some.inj H
       have hcz23_0 := b5_0 BK504.out
       have hcz23_1 := b5_1 BK504.out
       have hcz23_2 := b5_2 BK504.out
       have hcz23_3 := b5_3 BK504.out
       have hcz23_4 := b5_4 BK504.out
       have hfz23_0 := blk_frozen BK504.out 0
       have hfz23_1 := blk_frozen BK504.out 1
       have hfz23_2 := blk_frozen BK504.out 2
       have hfz23_3 := blk_frozen BK504.out 3
       have hfz23_4 := blk_frozen BK504.out 4
       go_wp2
       go_ret
       exact ⟨_, by first | rfl | (simp [errW_none, errW_some] <;> rfl) | (simp [*, errW_none, errW_some] <;> rfl), by (with_reducible repeat (first | apply Kd.R_alloc | apply Kd.R_drewN | apply Kd.R_drew)); exact HO_3.out, by repeat (first | (with_reducible first | exact bw HB.out | refine bset ?_ (by assumption) | apply below_alloc | apply pw_below_drewN | apply below_drew1) | exact HB.out)⟩

/-! ### impl_Dispatcher_ends: function 98 -/
abbrev q98_0 : Array Bool := #[false, false, false, false, false, false, false, false]
abbrev q98_3 : Array Bool := #[true, true, true, false, false, false, false, false]
abbrev q98_4 : Array Bool := #[true, true, true, true, false, false, false, false]
abbrev q98_5 : Array Bool := #[true, true, true, true, true, false, false, false]
abbrev q98_6 : Array Bool := #[true, true, true, true, true, true, false, false]
abbrev q98_8 : Array Bool := #[true, true, true, true, true, true, true, true]
mutual
def impl_Dispatcher_ends.l0 : Nat → List Int → Int → Int → Int → Int → Int → List (S137) → List (S135) → Option (List Int)
 | 0, _, _, _, _, _, _, _, _ => none
 | k + 1, x3, x8, x9, x556000, x556001, x556002, x556003, x556004 => if x9 < x8 then (if x3.length < 17592186044416 then (impl_Dispatcher_ends.l0 k (x3 ++ [(-1)]) x8 (wrap64 (x9 + 1)) x556000 x556001 x556002 x556003 x556004) else (none)) else (impl_Dispatcher_ends.l1 k x3 x556004 (x556004.length : Int) 0 x556000 x556001 x556002 x556003 x556004)
def impl_Dispatcher_ends.l1 : Nat → List Int → List (S135) → Int → Int → Int → Int → Int → List (S137) → List (S135) → Option (List Int)
 | 0, _, _, _, _, _, _, _, _, _ => none
 | k + 1, x3, x16, x17, x18, x556000, x556001, x556002, x556003, x556004 => if x18 < x17 then (if 0 ≤ x18 then (if x18 < (x16.length : Int) then ((impl_Dispatcher_endOf.f x556000 x556001 x556002 x556003 x556004 ((rd_T135 x16 x18).f0) ((rd_T135 x16 x18).f1) ((rd_T135 x16 x18).f2)).bind fun t561 => (if 0 ≤ ((rd_T135 x16 x18).f0) then (if ((rd_T135 x16 x18).f0) < (x3.length : Int) then (impl_Dispatcher_ends.l1 k (x3.set (((rd_T135 x16 x18).f0) : Int).toNat t561) x16 x17 (wrap64 (x18 + 1)) x556000 x556001 x556002 x556003 x556004) else (none)) else (none))) else (none)) else (none)) else (some x3)
end
def impl_Dispatcher_ends.f (k : Nat) (a0_0 : Int) (a0_1 : Int) (a0_2 : Int) (l0_3 : List (S137)) (l0_4 : List (S135)) : Option (List Int) := impl_Dispatcher_ends.l0 k ([] : List Int) (l0_3.length : Int) 0 a0_0 a0_1 a0_2 l0_3 l0_4
theorem impl_Dispatcher_ends.mono_l : ∀ k, (∀ y0 y1 y2 y3 y4 y5 y6 y7, LeO (impl_Dispatcher_ends.l0 k y0 y1 y2 y3 y4 y5 y6 y7) (impl_Dispatcher_ends.l0 (k + 1) y0 y1 y2 y3 y4 y5 y6 y7)) ∧ (∀ y0 y1 y2 y3 y4 y5 y6 y7 y8, LeO (impl_Dispatcher_ends.l1 k y0 y1 y2 y3 y4 y5 y6 y7 y8) (impl_Dispatcher_ends.l1 (k + 1) y0 y1 y2 y3 y4 y5 y6 y7 y8))
 | 0 => ⟨fun _ _ _ _ _ _ _ _ r h => by simp [impl_Dispatcher_ends.l0] at h, fun _ _ _ _ _ _ _ _ _ r h => by simp [impl_Dispatcher_ends.l1] at h⟩
 | k + 1 => by
  obtain ⟨ih0, ih1⟩ := impl_Dispatcher_ends.mono_l k
  refine ⟨?_, ?_⟩
  ·intro y0 y1 y2 y3 y4 y5 y6 y7
   unfold impl_Dispatcher_ends.l0
   repeat' first
   | (with_reducible exact ih0 _ _ _ _ _ _ _ _)
   | (with_reducible exact ih1 _ _ _ _ _ _ _ _ _)
   | (with_reducible exact LeO.refl _)
   | (with_reducible exact LeO.none _)
   | (with_reducible refine LeO.ite ?_ ?_)
   | (with_reducible refine LeO.bind ?_ (fun _ => ?_))
   | exact ih0 _ _ _ _ _ _ _ _
   | exact ih1 _ _ _ _ _ _ _ _ _
   | exact LeO.none _
   | refine LeO.ite ?_ ?_
   | refine LeO.bind ?_ (fun _ => ?_)
  ·intro y0 y1 y2 y3 y4 y5 y6 y7 y8
   unfold impl_Dispatcher_ends.l1
   repeat' first
   | (with_reducible exact ih0 _ _ _ _ _ _ _ _)
   | (with_reducible exact ih1 _ _ _ _ _ _ _ _ _)
   | (with_reducible exact LeO.refl _)
   | (with_reducible exact LeO.none _)
   | (with_reducible refine LeO.ite ?_ ?_)
   | (with_reducible refine LeO.bind ?_ (fun _ => ?_))
   | exact ih0 _ _ _ _ _ _ _ _
   | exact ih1 _ _ _ _ _ _ _ _ _
   | exact LeO.none _
   | refine LeO.ite ?_ ?_
   | refine LeO.bind ?_ (fun _ => ?_)
theorem impl_Dispatcher_ends.mono : ∀ a0 a1 a2 a3 a4 k, LeO (impl_Dispatcher_ends.f k a0 a1 a2 a3 a4) (impl_Dispatcher_ends.f (k + 1) a0 a1 a2 a3 a4) := by
 intro a0 a1 a2 a3 a4 k
 obtain ⟨ih0, ih1⟩ := impl_Dispatcher_ends.mono_l k
 unfold impl_Dispatcher_ends.f
 repeat' first
   | (with_reducible exact ih0 _ _ _ _ _ _ _ _)
   | (with_reducible exact ih1 _ _ _ _ _ _ _ _ _)
   | (with_reducible exact LeO.refl _)
   | (with_reducible exact LeO.none _)
   | (with_reducible refine LeO.ite ?_ ?_)
   | (with_reducible refine LeO.bind ?_ (fun _ => ?_))
   | exact ih0 _ _ _ _ _ _ _ _
   | exact ih1 _ _ _ _ _ _ _ _ _
   | exact LeO.none _
   | refine LeO.ite ?_ ?_
   | refine LeO.bind ?_ (fun _ => ?_)
def impl_Dispatcher_ends.T9 : Bool × List (List Nat × List Nat) := (true, [([], []), ([], []), ([1], [1]), ([], []), ([], []), ([3, 4], [3, 4]), ([0, 2, 0, 1, 2, 3, 4, 5], [0, 2]), ([6, 5, 5, 0, 1, 2, 3, 4, 5], [5, 6])])
def impl_Dispatcher_ends.B9 : List Nat := [0, 0, 2, 0, 0, 24, 63, 127]
theorem impl_Dispatcher_ends.tab9 : rtab .any (opsOf Try.f98 9) = impl_Dispatcher_ends.T9 := by kernel_rfl
theorem impl_Dispatcher_ends.bits9 : waitsOk impl_Dispatcher_ends.T9.2 impl_Dispatcher_ends.B9 = true := by kernel_rfl
set_option maxHeartbeats 8000000 in
set_option maxRecDepth 100000 in
theorem impl_Dispatcher_ends.calls (k : Nat) (a0_0 : Int) (a0_1 : Int) (a0_2 : Int) (A0_3 : Option Addr) (c0_3 : Nat) (l0_3 : List (S137)) (A0_4 : Option Addr) (c0_4 : Nat) (l0_4 : List (S135)) (r : List Int) (w : World) (hr0_3 : Kd.C k137 w A0_3 l0_3.length l0_3) (hc0_3 : l0_3.length ≤ c0_3) (hr0_4 : Kd.C k135 w A0_4 l0_4.length l0_4) (hc0_4 : l0_4.length ≤ c0_4) (h : impl_Dispatcher_ends.f k a0_0 a0_1 a0_2 l0_3 l0_4 = some r) :
  Calls Try.prog 98 #[.agg #[.int .i64 a0_0, .int .i64 a0_1, .int .i64 a0_2, .slice A0_3 l0_3.length c0_3, .slice A0_4 l0_4.length c0_4]] w fun e w' => ∃ v0_ : Value, e = .returned (v0_) ∧ Kd.R (Kd.int .i64) 3 w' w.heap.size (fun _ => True) v0_ r ∧ Below w.heap.size w w' := by
 have hu25 := Try.underlying25
 have hu135 := Try.underlying135
 have HR0_3 := Aside0.mk hr0_3
 have HC0_3 := Aside0.mk hc0_3
 clear hr0_3 hc0_3
 have HR0_4 := Aside0.mk hr0_4
 have HC0_4 := Aside0.mk hc0_4
 clear hr0_4 hc0_4
 have HB := Aside0.mk (Below.refl w.heap.size w)
 have H : (impl_Dispatcher_ends.l0 k ([] : List Int) (l0_3.length : Int) 0 a0_0 a0_1 a0_2 l0_3 l0_4) = some r := h
 clear h
 have H' := Aside0.mk H
 clear H
 go_enter Try.func98, Try.ntmps98
 go_wp2_with (first | ((with_reducible refine gate_dst (N := 1) rfl ?_); refine box_event ?hg (N := 1) ?hd (cs := #[.int .i64 a0_0, .int .i64 a0_1, .int .i64 a0_2, .slice A0_3 l0_3.length c0_3, .slice A0_4 l0_4.length c0_4]) (t := 25) ?hr ?_; (case hd => rfl); (case hg => rfl); (case hr => first | (go_simp; done) | (go_simp; rfl)); intro gb555 hg w2 hbox hb; have n0_ := Aside0.mk (below_step (bw HB.out) hb); have n1_ := Aside0.mk (hbox); have n2_ := ge_ hg HB.out; have n3_ := ge_ hg HB.out; clear HB; have HB := n0_; have BK555 := n1_; have GW555 := n2_; have GE555 := n3_; clear n0_ n1_ n2_ n3_; clear hb hbox hg; have hcz3_0 := b5_0 BK555.out; have hcz3_1 := b5_1 BK555.out; have hcz3_2 := b5_2 BK555.out; have hcz3_3 := b5_3 BK555.out; have hcz3_4 := b5_4 BK555.out; have hfz3_0 := blk_frozen BK555.out 0; have hfz3_1 := blk_frozen BK555.out 1; have hfz3_2 := blk_frozen BK555.out 2; have hfz3_3 := blk_frozen BK555.out 3; have hfz3_4 := blk_frozen BK555.out 4))
 go_loopg [3, 9] k (fun kq v3 v9 w' => ∃ (x3_1 : List Int) (x9_1 : Int), v9 = .int .i64 x9_1 ∧ Aside0 (impl_Dispatcher_ends.l0 kq x3_1 (l0_3.length : Int) x9_1 a0_0 a0_1 a0_2 l0_3 l0_4 = some r) ∧ Aside0 (kq ≤ k) ∧ Aside0 (Kd.R (Kd.int .i64) 3 w' w.heap.size (fun _ => True) v3 x3_1) ∧ Aside0 (w'.heap[gb555]? = some (.cells #[.int .i64 a0_0, .int .i64 a0_1, .int .i64 a0_2, (.slice A0_3 l0_3.length c0_3), (.slice A0_4 l0_4.length c0_4)] 25 (0, 0))) ∧ Aside0 (Below w.heap.size w w'))
 case atStart => exact ⟨(([] : List Int)), (0), (by first | rfl | (simp; done) | (simp [*]; done)), H', ⟨Nat.le_refl _⟩, ⟨by first | exact Kd.R_nil _ _ _ _ _ | exact Kd.N_nil _ _ _ _ _ | exact Kd.V_nil _ _ _ _ _ | exact Kd.Q_nil _ _ _ _ _ | exact Kd.S_nil _ _ _ _ _⟩, ⟨bs BK555.out⟩, ⟨by repeat (first | (with_reducible first | exact bw HB.out | refine bset ?_ (by assumption) | apply below_alloc | apply pw_below_drewN | apply below_drew1) | exact HB.out)⟩⟩
 case round =>
  clear H'
  try clear p2
  try clear hcz3_0
  try clear hcz3_1
  try clear hcz3_2
  try clear hcz3_3
  try clear hcz3_4
  try clear hfz3_0
  try clear hfz3_1
  try clear hfz3_2
  try clear hfz3_3
  try clear hfz3_4
  obtain ⟨x3_1, x9_1, rfl, HA, HK1, HO_3, BK555, HB⟩ := hrel
  cases gk with
  | zero => exact absurd HA.out (by simp [impl_Dispatcher_ends.l0])
  | succ k1 =>
   have H := HA.out
   clear HA
   simp only [impl_Dispatcher_ends.l0] at H
   by_cases c4 : x9_1 < (l0_3.length : Int)
   ·rw [if_pos c4] at H
    have c4b0 : decide (x9_1 < (l0_3.length : Int)) = true := decide_eq_true c4
    clear c4
    by_cases c5 : x3_1.length < 17592186044416
    ·rw [if_pos c5] at H
     have LMc5 := Aside0.mk c5
     clear c5
     obtain ⟨y556, hy556⟩ : ∃ y_ : List Int, y_ = (x3_1 ++ [(-1)]) := ⟨_, rfl⟩
     replace H : (impl_Dispatcher_ends.l0 k1 y556 (l0_3.length : Int) (wrap64 (x9_1 + 1)) a0_0 a0_1 a0_2 l0_3 l0_4) = some r := by first | (rw [hy556]; with_reducible exact H) | (have H2_ := (Option.bind_some _ _).symm.trans H; rw [hy556]; with_reducible exact H2_) | (have H2_ := (Option.bind_some _ _).symm.trans H; with_reducible exact H2_) | with_reducible exact H | (rw [hy556]; exact H) | exact H
     have Ny556 := Aside0.mk hy556
     clear hy556
     have H' := Aside0.mk H
     clear H
     go_wp2_with (first | ((with_reducible refine gate_builtin (b := .append) (xs := #[.tmp 11, .tmp 12]) rfl ?_); at_builtin; refine Kd.R_append (Kd.int .i64) (w0 := w) w.heap.size rfl (.tmp 11) (.tmp 12) 61 3 (.int .i64 0) 8 rfl Try.underlying61 info3 rfl (by decide) (by omega) u3 x3_1 (-1) [.int .i64 (-1)] (fun _ => True) (fun _ => False) rfl rfl ?aP (fun _ hk => hk.elim) ?aF ?aO ?aB ?aS ?aL ?_; (case aP => exact rfl); (case aB => exact (by repeat (first | (with_reducible first | exact bw HB.out | refine bset ?_ (by assumption) | apply below_alloc | apply pw_below_drewN | apply below_drew1) | exact HB.out))); (case aF => exact (fun _ _ => trivial)); (case aO => exact (bR HO_3.out)); (case aS => exact (below_size (by repeat (first | (with_reducible first | exact bw HB.out | refine bset ?_ (by assumption) | apply below_alloc | apply pw_below_drewN | apply below_drew1) | exact HB.out)))); (case aL => have := LMc5.out; omega); intro v557 w6 ho hb hg hat; rw [← Ny556.out] at ho; have n0_ := Aside0.mk (blk_grown (bs BK555.out) hg (Kd.R_ne HO_3.out BK555.out (by decide))); have n1_ := Aside0.mk (hb); have n2_ := Aside0.mk (ho); clear BK555; clear HB; clear HO_3; have BK555 := n0_; have HB := n1_; have HO558 := n2_; clear n0_ n1_ n2_; clear ho hb hg hat))
     go_roundg k1
     case measure => have := HK1.out; omega
     case rel => exact ⟨(y556), (wrap64 (x9_1 + 1)), (by first | rfl | (simp; done) | (simp [*]; done)), H', ⟨by have := HK1.out; omega⟩, ⟨bR HO558.out⟩, ⟨bs BK555.out⟩, ⟨by repeat (first | (with_reducible first | exact bw HB.out | refine bset ?_ (by assumption) | apply below_alloc | apply pw_below_drewN | apply below_drew1) | exact HB.out)⟩⟩
    ·rw [if_neg c5] at H
     exact absurd H (by simp)
   ·rw [if_neg c4] at H
    have c4b0 : decide (x9_1 < (l0_3.length : Int)) = false := decide_eq_false c4
    clear c4
    have H' := Aside0.mk H
    clear H
    have hcz7_0 := b5_0 BK555.out
    have hcz7_1 := b5_1 BK555.out
    have hcz7_2 := b5_2 BK555.out
    have hcz7_3 := b5_3 BK555.out
    have hcz7_4 := b5_4 BK555.out
    have hfz7_0 := blk_frozen BK555.out 0
    have hfz7_1 := blk_frozen BK555.out 1
    have hfz7_2 := blk_frozen BK555.out 2
    have hfz7_3 := blk_frozen BK555.out 3
    have hfz7_4 := blk_frozen BK555.out 4
    go_wp2
    go_loopg [18] k1 (fun kq v18 w' => ∃ (x3_2 : List Int) (x18_2 : Int), v18 = .int .i64 x18_2 ∧ Aside0 (impl_Dispatcher_ends.l1 kq x3_2 l0_4 (l0_4.length : Int) x18_2 a0_0 a0_1 a0_2 l0_3 l0_4 = some r) ∧ Aside0 (kq ≤ k1) ∧ Aside0 (Kd.R (Kd.int .i64) 3 w' w.heap.size (fun _ => True) u3 x3_2) ∧ Aside0 (w'.heap[gb555]? = some (.cells #[.int .i64 a0_0, .int .i64 a0_1, .int .i64 a0_2, (.slice A0_3 l0_3.length c0_3), (.slice A0_4 l0_4.length c0_4)] 25 (0, 0))) ∧ Aside0 (Below w.heap.size w w'))
    case atStart => exact ⟨(x3_1), (0), (by first | rfl | (simp; done) | (simp [*]; done)), H', ⟨Nat.le_refl _⟩, ⟨bR HO_3.out⟩, ⟨bs BK555.out⟩, ⟨by repeat (first | (with_reducible first | exact bw HB.out | refine bset ?_ (by assumption) | apply below_alloc | apply pw_below_drewN | apply below_drew1) | exact HB.out)⟩⟩
    case round =>
     clear H'
     try clear p2
     try clear c4
     try clear c4b0
     try clear c5
     try clear p6
     try clear hcz3_0
     try clear hcz3_1
     try clear hcz3_2
     try clear hcz3_3
     try clear hcz3_4
     try clear hcz7_0
     try clear hcz7_1
     try clear hcz7_2
     try clear hcz7_3
     try clear hcz7_4
     try clear hfz3_0
     try clear hfz3_1
     try clear hfz3_2
     try clear hfz3_3
     try clear hfz3_4
     try clear hfz7_0
     try clear hfz7_1
     try clear hfz7_2
     try clear hfz7_3
     try clear hfz7_4
     try clear p2
     obtain ⟨x3_2, x18_2, rfl, HA, HK2, HO_3, BK555, HB⟩ := hrel
     cases gk with
     | zero => exact absurd HA.out (by simp [impl_Dispatcher_ends.l1])
     | succ k2 =>
      have H := HA.out
      clear HA
      simp only [impl_Dispatcher_ends.l1] at H
      by_cases c8 : x18_2 < (l0_4.length : Int)
      ·rw [if_pos c8] at H
       have c8b0 : decide (x18_2 < (l0_4.length : Int)) = true := decide_eq_true c8
       clear c8
       by_cases c9 : 0 ≤ x18_2
       ·rw [if_pos c9] at H
        have c9b0 : decide (0 ≤ x18_2) = true := decide_eq_true c9
        clear c9
        by_cases c10 : x18_2 < (l0_4.length : Int)
        ·rw [if_pos c10] at H
         have c10b0 : decide (x18_2 < (l0_4.length : Int)) = true := decide_eq_true c10
         clear c10
         replace H := Option.bind_eq_some_iff.mp H
         obtain ⟨t561, A110, H⟩ := H
         replace H : (if 0 ≤ ((rd_T135 l0_4 x18_2).f0) then (if ((rd_T135 l0_4 x18_2).f0) < (x3_2.length : Int) then (impl_Dispatcher_ends.l1 k2 (x3_2.set (((rd_T135 l0_4 x18_2).f0) : Int).toNat t561) l0_4 (l0_4.length : Int) (wrap64 (x18_2 + 1)) a0_0 a0_1 a0_2 l0_3 l0_4) else (none)) else (none)) = some r := H
         have A11 := Aside0.mk A110
         clear A110
         by_cases c12 : 0 ≤ ((rd_T135 l0_4 x18_2).f0)
         ·rw [if_pos c12] at H
          have c12b0 : decide (0 ≤ ((rd_T135 l0_4 x18_2).f0)) = true := decide_eq_true c12
          clear c12
          by_cases c13 : ((rd_T135 l0_4 x18_2).f0) < (x3_2.length : Int)
          ·rw [if_pos c13] at H
           have c13b0 : decide (((rd_T135 l0_4 x18_2).f0) < (x3_2.length : Int)) = true := decide_eq_true c13
           clear c13
           obtain ⟨y562, hy562⟩ : ∃ y_ : List Int, y_ = (x3_2.set (((rd_T135 l0_4 x18_2).f0) : Int).toNat t561) := ⟨_, rfl⟩
           replace H : (impl_Dispatcher_ends.l1 k2 y562 l0_4 (l0_4.length : Int) (wrap64 (x18_2 + 1)) a0_0 a0_1 a0_2 l0_3 l0_4) = some r := by first | (rw [hy562]; with_reducible exact H) | (have H2_ := (Option.bind_some _ _).symm.trans H; rw [hy562]; with_reducible exact H2_) | (have H2_ := (Option.bind_some _ _).symm.trans H; with_reducible exact H2_) | with_reducible exact H | (rw [hy562]; exact H) | exact H
           have Ny562 := Aside0.mk hy562
           clear hy562
           have H' := Aside0.mk H
           clear H
           have p559 : 0 ≤ (x18_2 : Int) := of_decide_eq_true (by first | (with_reducible assumption) | assumption)
           have q559 : x18_2 < (l0_4.length : Int) := of_decide_eq_true (by first | (with_reducible assumption) | assumption)
           obtain ⟨ad559, e559, hx559_0, hx559_1, hx559_2⟩ := at_T135 HR0_4.out x18_2 p559 q559
           cases e559
           replace hx559_0 := (HB.out.cell (World.block_lt_of_cell? w _ hx559_0)).trans hx559_0
           replace hx559_1 := (HB.out.cell (World.block_lt_of_cell? w _ hx559_1)).trans hx559_1
           replace hx559_2 := (HB.out.cell (World.block_lt_of_cell? w _ hx559_2)).trans hx559_2
           replace p559 := eq_true p559
           replace q559 := eq_true q559
           try go_wp2_with (first | ((with_reducible refine gate_dst (N := 5) rfl ?_); refine box_event ?hg (N := 5) ?hd (cs := #[.int .i64 0, .int .i64 0, .int .i64 0]) (t := 135) ?hr ?_; (case hd => rfl); (case hg => rfl); (case hr => first | (go_simp; done) | (go_simp; rfl)); intro gb560 hg w15 hbox hb; have n0_ := Aside0.mk (Kd.R_below (bR HO_3.out) hb); have n1_ := Aside0.mk (blk_below (bs BK555.out) hb); have n2_ := Aside0.mk (below_step (by repeat (first | (with_reducible first | exact bw HB.out | refine bset ?_ (by assumption) | apply below_alloc | apply pw_below_drewN | apply below_drew1) | exact HB.out)) hb); have n3_ := Aside0.mk (hbox); have n4_ := Aside0.mk ((by rw [hg]; exact (below_size (by repeat (first | (with_reducible first | exact bw HB.out | refine bset ?_ (by assumption) | apply below_alloc | apply pw_below_drewN | apply below_drew1) | exact HB.out))) : w.heap.size ≤ gb560)); have n5_ := Aside0.mk ((by rw [hg]; exact (below_size (by repeat (first | (with_reducible first | exact bw HB.out | refine bset ?_ (by assumption) | apply below_alloc | apply pw_below_drewN | apply below_drew1) | exact HB.out))) : w.heap.size ≤ gb560)); have n6_ := ne_ hg BK555.out; have n7_ := en_ hg BK555.out; clear HO_3; clear BK555; clear HB; have HO_3 := n0_; have BK555 := n1_; have HB := n2_; have BK560 := n3_; have GW560 := n4_; have GE560 := n5_; have NB555_560 := n6_; have NB560_555 := n7_; clear n0_ n1_ n2_ n3_ n4_ n5_ n6_ n7_; clear hb hbox hg; have hnb16 := NB560_555.out; have hnc16 := NB555_560.out; have hcz17_0 := b3_0 BK560.out; have hcz17_1 := b3_1 BK560.out; have hcz17_2 := b3_2 BK560.out; have hfz17_0 := blk_frozen BK560.out 0; have hfz17_1 := blk_frozen BK560.out 1; have hfz17_2 := blk_frozen BK560.out 2))
           have n0_ : Aside0 (Kd.R (Kd.int .i64) 3 (((w15.setCell ⟨gb560, 0, none⟩ (.int .i64 ((rd_T135 l0_4 x18_2).f0))).setCell ⟨gb560, 1, none⟩ (.int .i64 ((rd_T135 l0_4 x18_2).f1))).setCell ⟨gb560, 2, none⟩ (.int .i64 ((rd_T135 l0_4 x18_2).f2))) w.heap.size (fun _ => True) u3 x3_2) := ⟨by (with_reducible repeat (first | apply Kd.R_alloc | apply Kd.R_drewN | apply Kd.R_drew)); exact Kd.R_mono (Kd.R_far (p := ⟨gb560, 2, none⟩) (Kd.R_far (p := ⟨gb560, 1, none⟩) (Kd.R_far (p := ⟨gb560, 0, none⟩) (Kd.R_types HO_3.out BK560.out (by decide)) (fun _ hk => hk.2) (.int .i64 ((rd_T135 l0_4 x18_2).f0))) (fun _ hk => hk.2) (.int .i64 ((rd_T135 l0_4 x18_2).f1))) (fun _ hk => hk.2) (.int .i64 ((rd_T135 l0_4 x18_2).f2))) (fun _ hk => trivial)⟩
           have n1_ : Aside0 ((((w15.setCell ⟨gb560, 0, none⟩ (.int .i64 ((rd_T135 l0_4 x18_2).f0))).setCell ⟨gb560, 1, none⟩ (.int .i64 ((rd_T135 l0_4 x18_2).f1))).setCell ⟨gb560, 2, none⟩ (.int .i64 ((rd_T135 l0_4 x18_2).f2))).heap[gb555]? = some (.cells #[.int .i64 a0_0, .int .i64 a0_1, .int .i64 a0_2, .slice A0_3 l0_3.length c0_3, .slice (some ad559) l0_4.length c0_4] 25 (0, 0))) := ⟨by (with_reducible repeat (first | refine blk_drewN ?_ _ | refine blk_drew ?_ | refine blk_alloc ?_ _)); refine blk_far ?_ NB555_560.out _; (with_reducible repeat (first | refine blk_drewN ?_ _ | refine blk_drew ?_ | refine blk_alloc ?_ _)); refine blk_far ?_ NB555_560.out _; (with_reducible repeat (first | refine blk_drewN ?_ _ | refine blk_drew ?_ | refine blk_alloc ?_ _)); refine blk_far ?_ NB555_560.out _; exact bs BK555.out⟩
           have n2_ : Aside0 ((((w15.setCell ⟨gb560, 0, none⟩ (.int .i64 ((rd_T135 l0_4 x18_2).f0))).setCell ⟨gb560, 1, none⟩ (.int .i64 ((rd_T135 l0_4 x18_2).f1))).setCell ⟨gb560, 2, none⟩ (.int .i64 ((rd_T135 l0_4 x18_2).f2))).heap[gb560]? = some (.cells #[.int .i64 ((rd_T135 l0_4 x18_2).f0), .int .i64 ((rd_T135 l0_4 x18_2).f1), .int .i64 ((rd_T135 l0_4 x18_2).f2)] 135 (0, 0))) := ⟨by (with_reducible repeat (first | refine blk_drewN ?_ _ | refine blk_drew ?_ | refine blk_alloc ?_ _)); refine blk_put (cs := #[.int .i64 ((rd_T135 l0_4 x18_2).f0), .int .i64 ((rd_T135 l0_4 x18_2).f1), .int .i64 0]) ?_ 2 _ rfl; (with_reducible repeat (first | refine blk_drewN ?_ _ | refine blk_drew ?_ | refine blk_alloc ?_ _)); refine blk_put (cs := #[.int .i64 ((rd_T135 l0_4 x18_2).f0), .int .i64 0, .int .i64 0]) ?_ 1 _ rfl; (with_reducible repeat (first | refine blk_drewN ?_ _ | refine blk_drew ?_ | refine blk_alloc ?_ _)); refine blk_put (cs := #[.int .i64 0, .int .i64 0, .int .i64 0]) ?_ 0 _ rfl; exact bs BK560.out⟩
           have n3_ : Aside0 (Below w.heap.size w (((w15.setCell ⟨gb560, 0, none⟩ (.int .i64 ((rd_T135 l0_4 x18_2).f0))).setCell ⟨gb560, 1, none⟩ (.int .i64 ((rd_T135 l0_4 x18_2).f1))).setCell ⟨gb560, 2, none⟩ (.int .i64 ((rd_T135 l0_4 x18_2).f2)))) := ⟨by repeat (first | (with_reducible first | exact bw HB.out | refine bset ?_ (by assumption) | apply below_alloc | apply pw_below_drewN | apply below_drew1) | exact HB.out)⟩
           (try clear HO_3)
           (try clear BK555)
           (try clear BK560)
           (try clear HB)
           (try simp only [setCell_drewN])
           generalize (((w15.setCell ⟨gb560, 0, none⟩ (.int .i64 ((rd_T135 l0_4 x18_2).f0))).setCell ⟨gb560, 1, none⟩ (.int .i64 ((rd_T135 l0_4 x18_2).f1))).setCell ⟨gb560, 2, none⟩ (.int .i64 ((rd_T135 l0_4 x18_2).f2))) = w18 at n0_ n1_ n2_ n3_ ⊢
           have HO_3 := n0_
           have BK555 := n1_
           have BK560 := n2_
           have HB := n3_
           clear n0_ n1_ n2_ n3_
           have n0_ := Aside0.mk (Kd.R_drew HO_3.out)
           have n1_ := Aside0.mk (blk_drew BK555.out)
           have n2_ := Aside0.mk (blk_drew BK560.out)
           have n3_ := Aside0.mk (below_drew1 HB.out)
           clear HO_3
           clear BK555
           clear BK560
           clear HB
           have HO_3 := n0_
           have BK555 := n1_
           have BK560 := n2_
           have HB := n3_
           clear n0_ n1_ n2_ n3_
           refine start_ (n := 8) (S := fun w' => w'.cell? ⟨gb560, 0, none⟩ = some (.int .i64 ((rd_T135 l0_4 x18_2).f0)) ∧ w'.cell? ⟨gb560, 1, none⟩ = some (.int .i64 ((rd_T135 l0_4 x18_2).f1)) ∧ w'.cell? ⟨gb560, 2, none⟩ = some (.int .i64 ((rd_T135 l0_4 x18_2).f2)) ∧ w'.cell? ⟨gb555, 0, none⟩ = some (.int .i64 a0_0) ∧ w'.cell? ⟨gb555, 1, none⟩ = some (.int .i64 a0_1) ∧ w'.cell? ⟨gb555, 2, none⟩ = some (.int .i64 a0_2) ∧ w'.cell? ⟨gb555, 3, none⟩ = some (.slice A0_3 l0_3.length c0_3) ∧ w'.cell? ⟨gb555, 4, none⟩ = some (.slice (some ad559) l0_4.length c0_4)) (ds := [7]) q98_0 (by kernel_rfl) rfl rfl ⟨(blk_cell BK560.out 0).trans rfl, (blk_cell BK560.out 1).trans rfl, (blk_cell BK560.out 2).trans rfl, (blk_cell BK555.out 0).trans rfl, (blk_cell BK555.out 1).trans rfl, (blk_cell BK555.out 2).trans rfl, (blk_cell BK555.out 3).trans rfl, (blk_cell BK555.out 4).trans rfl⟩ (fun hHeld => ?_); refine with_tabW impl_Dispatcher_ends.tab9 impl_Dispatcher_ends.bits9 (fun HT_ HW_ => ?_)
           generalize w18.drew = w19 at HO_3 BK555 BK560 HB hHeld ⊢
           refine pup_ (i := 0) (N := some 22) (v := ?_) (a' := ?_) HT_ rfl rfl (by kernel_rfl) (fun _ _ _ h => h) (Or.inl ⟨by rfl, ?_⟩) ?_ ?_
           rotate_left
           ·intro w'
            go_simp
            with_reducible rfl
           rotate_left
           ·simp only [aq_]
            rfl
           refine pup_ (i := 1) (N := some 23) (v := ?_) (a' := ?_) HT_ rfl rfl (by kernel_rfl) (fun _ _ _ h => h) (Or.inl ⟨by rfl, ?_⟩) ?_ ?_
           rotate_left
           ·intro w'
            go_simp
            with_reducible rfl
           rotate_left
           ·simp only [aq_]
            rfl
           refine take_ (i := 2) (N := some 24) (v := ?_) (a' := ?_) q98_3 rfl rfl (take_ofW HT_.out HW_.out (by kernel_rfl)) (fun _ _ _ h => h) (Or.inl ⟨by rfl, ?_⟩) hHeld ?_ ?_
           rotate_left
           ·rintro w' ⟨s0, s1, s2, s3, s4, s5, s6, s7⟩
            go_simp
            with_reducible rfl
           rotate_left
           ·simp only [aq_]
            rfl
           refine take_ (i := 3) (N := some 25) (v := ?_) (a' := ?_) q98_4 rfl rfl (take_ofW HT_.out HW_.out (by kernel_rfl)) (fun _ _ _ h => h) (Or.inl ⟨by rfl, ?_⟩) hHeld ?_ ?_
           rotate_left
           ·rintro w' ⟨s0, s1, s2, s3, s4, s5, s6, s7⟩
            go_simp
            with_reducible rfl
           rotate_left
           ·simp only [aq_]
            rfl
           refine take_ (i := 4) (N := some 26) (v := ?_) (a' := ?_) q98_5 rfl rfl (take_ofW HT_.out HW_.out (by kernel_rfl)) (fun _ _ _ h => h) (Or.inl ⟨by rfl, ?_⟩) hHeld ?_ ?_
           rotate_left
           ·rintro w' ⟨s0, s1, s2, s3, s4, s5, s6, s7⟩
            go_simp
            with_reducible rfl
           rotate_left
           ·simp only [aq_]
            rfl
           refine one_ (i := 5) (N := some 27) q98_6 rfl rfl (one_of HT_.out (by kernel_rfl)) (by decide) (fun K hK => ?_)
           refine goes_ Try.func124 (by kernel_rfl) rfl #[.agg #[.int .i64 a0_0, .int .i64 a0_1, .int .i64 a0_2, .slice A0_3 l0_3.length c0_3, .slice (some ad559) l0_4.length c0_4], .agg #[.int .i64 ((rd_T135 l0_4 x18_2).f0), .int .i64 ((rd_T135 l0_4 x18_2).f1), .int .i64 ((rd_T135 l0_4 x18_2).f2)]] (by rfl) rfl rfl (by (try simp only [mA_]); first | done | rfl | (simp only [List.length_drop, List.length_take]; rfl)) ?_
           with_reducible refine (impl_Dispatcher_endOf.calls a0_0 a0_1 a0_2 _ _ l0_3 _ _ l0_4 ((rd_T135 l0_4 x18_2).f0) ((rd_T135 l0_4 x18_2).f1) ((rd_T135 l0_4 x18_2).f2) t561 _ ?side1 ?side2 ?side3 ?side4 A11.out).mono ?_
           (case side1 => first | exact bC HR0_3.out HB.out | exact Kd.C_below HR0_3.out HB.out)
           (case side2 => exact HC0_3.out)
           (case side3 => first | exact bC HR0_4.out HB.out | exact Kd.C_below HR0_4.out HB.out)
           (case side4 => exact HC0_4.out)
           rintro e w20 ⟨rfl, hb⟩
           refine ⟨_, rfl, ?_⟩
           have n0_ := Aside0.mk (Kd.R_below (bR HO_3.out) hb)
           have n1_ := Aside0.mk (blk_below (bs BK555.out) hb)
           have n2_ := Aside0.mk (blk_below (bs BK560.out) hb)
           have n3_ := Aside0.mk (below_step (by repeat (first | (with_reducible first | exact bw HB.out | refine bset ?_ (by assumption) | apply below_alloc | apply pw_below_drewN | apply below_drew1) | exact HB.out)) hb)
           clear HO_3
           clear BK555
           clear BK560
           clear HB
           have HO_3 := n0_
           have BK555 := n1_
           have BK560 := n2_
           have HB := n3_
           clear n0_ n1_ n2_ n3_
           (try clear hb)
           (try clear hb2)
           (try clear hk)
           (try clear hi)
           have p14 : 0 ≤ (((rd_T135 l0_4 x18_2).f0) : Int) := of_decide_eq_true (by first | (with_reducible assumption) | assumption)
           have q14 : (((rd_T135 l0_4 x18_2).f0) : Int) < ((x3_2.length : Int) : Int) := of_decide_eq_true (by first | (with_reducible assumption) | assumption)
           obtain ⟨go14, co14, eo14, gb14, gl14, cl14, HG14⟩ := Kd.R_form HO_3.out (by omega)
           (first | cases eo14 | (injection eo14 with ea_ en_ ec_; (first | subst ea_ | (injection ea_ with ea_; subst ea_)); subst ec_; clear en_))
           have GB14 := Aside0.mk gb14
           have GG14 := Aside0.mk HG14
           clear gb14 gl14 HG14
           obtain ⟨hx14_0, hf14_0⟩ := Kd.R_celln 0 HO_3.out (((rd_T135 l0_4 x18_2).f0) : Int) p14 q14
           replace p14 := eq_true p14
           replace q14 := eq_true q14
           have HP21 := Kd.R_putn HO_3.out (((rd_T135 l0_4 x18_2).f0) : Int) t561
           rw [← Ny562.out] at HP21
           have HQ21 := Aside0.mk HP21
           clear HP21
           refine hK.out _ _ ⟨(blk_cell BK560.out 0).trans rfl, (blk_cell BK560.out 1).trans rfl, (blk_cell BK560.out 2).trans rfl, (blk_cell BK555.out 0).trans rfl, (blk_cell BK555.out 1).trans rfl, (blk_cell BK555.out 2).trans rfl, (blk_cell BK555.out 3).trans rfl, (blk_cell BK555.out 4).trans rfl⟩ (fun hHeld => ?_)
           clear hK K
           refine norm_ (a' := ?_) ?_ ?_
           rotate_left
           ·show Act.put _ (some 27) _ = _
            simp only [aq_]
            rfl
           refine pup_ (i := 6) (N := some 28) (v := ?_) (a' := ?_) HT_ rfl rfl (by kernel_rfl) (fun _ _ _ h => h) (Or.inl ⟨by rfl, ?_⟩) ?_ ?_
           rotate_left
           ·intro w'
            go_simp
            with_reducible rfl
           rotate_left
           ·simp only [aq_]
            rfl
           refine last_ (i := 7) (N := none) q98_8 rfl rfl (one_of HT_.out (by kernel_rfl)) (by decide) (fun K hK => ?_)
           refine skip_ (w1 := ?_) (by rfl) rfl ?_ ?_
           rotate_left
           ·go_simp
            rfl
           refine hK.out _ _ ?_
           clear hK K
           refine done_ (done_of HT_.out (by kernel_rfl)) ?_
           try go_wp2
           go_roundg k2
           case measure => have := HK1.out; have := HK2.out; omega
           case rel => exact ⟨(y562), (wrap64 (x18_2 + 1)), (by first | rfl | (simp; done) | (simp [*]; done)), H', ⟨by have := HK1.out; have := HK2.out; omega⟩, ⟨bR HQ21.out⟩, ⟨by (with_reducible repeat (first | refine blk_drewN ?_ _ | refine blk_drew ?_ | refine blk_alloc ?_ _)); refine blk_far ?_ (by have h_ := Kd.R_ne HO_3.out BK555.out (by decide); intro e_; exact h_ (by rw [e_]; rfl)) _; exact bs BK555.out⟩, ⟨by repeat (first | (with_reducible first | exact HB.out | apply below_alloc | apply pw_below_drewN | apply below_drew1 | refine below_set ?_ GB14.out | refine below_set ?_ GE555.out | refine below_set ?_ GE560.out) | exact HB.out)⟩⟩
          ·rw [if_neg c13] at H
           exact absurd H (by simp)
         ·rw [if_neg c12] at H
          exact absurd H (by simp)
        ·rw [if_neg c10] at H
         exact absurd H (by simp)
       ·rw [if_neg c9] at H
        exact absurd H (by simp)
      ·rw [if_neg c8] at H
       have c8b0 : decide (x18_2 < (l0_4.length : Int)) = false := decide_eq_false c8
       clear c8
       obtain rfl := Option.some.inj H
       go_wp2
       go_ret
       exact ⟨_, by first | rfl | (simp [errW_none, errW_some] <;> rfl) | (simp [*, errW_none, errW_some] <;> rfl), by (with_reducible repeat (first | apply Kd.R_alloc | apply Kd.R_drewN | apply Kd.R_drew)); exact HO_3.out, by repeat (first | (with_reducible first | exact bw HB.out | refine bset ?_ (by assumption) | apply below_alloc | apply pw_below_drewN | apply below_drew1) | exact HB.out)⟩

end Go.Proofs.Ytafdeppeacmpdaa.X
