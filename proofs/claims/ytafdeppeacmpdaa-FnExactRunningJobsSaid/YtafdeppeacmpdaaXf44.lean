-- Written by a program of this session (wip/gen/xp.py, over the kit's printer). Not trusted: Lean checks it.
import Derived.Test.YtafdeppeacmpdaaX0
import Derived.Test.YtafdeppeacmpdaaXf76
import Derived.Test.YtafdeppeacmpdaaXf77
namespace Go.Proofs.Ytafdeppeacmpdaa.X
open Go.RowKit Go.Proofs.YtafdeppeacmpdaaW.PrintWords Go.Proofs.YtafdeppeacmpdaaW.PrintLast Go.Proofs.YtafdeppeacmpdaaW.PrintMore
attribute [local go_sem] max2_int min2_int max_two min_two max_three min_three max_four min_four   -- for this text's walks alone
set_option linter.unusedVariables false
set_option linter.unusedSimpArgs false

/-! ### spec_l12Running: function 99 -/
def spec_l12Running.l0 : Nat → Int → Int → Int → Int → Int → List (S137) → List (S135) → Option (Int)
 | 0, _, _, _, _, _, _, _ => none
 | k + 1, x1, x5, x635000, x635001, x635002, x635003, x635004 => if x5 < (x635004.length : Int) then (if 0 ≤ x5 then (if ((rd_T135 x635004 x5).f1) = x1 then (if ((rd_T135 x635004 x5).f2) ≤ x635002 then (if 0 ≤ ((rd_T135 x635004 x5).f0) then (if ((rd_T135 x635004 x5).f0) < (x635003.length : Int) then (if (wrap64 (((rd_T135 x635004 x5).f2) + ((rd_T137 x635003 ((rd_T135 x635004 x5).f0)).f0))) > x635002 then (some ((rd_T135 x635004 x5).f0)) else (spec_l12Running.l0 k x1 (wrap64 (x5 + 1)) x635000 x635001 x635002 x635003 x635004)) else (none)) else (none)) else (spec_l12Running.l0 k x1 (wrap64 (x5 + 1)) x635000 x635001 x635002 x635003 x635004)) else (spec_l12Running.l0 k x1 (wrap64 (x5 + 1)) x635000 x635001 x635002 x635003 x635004)) else (none)) else (some (-1))
def spec_l12Running.f (k : Nat) (a0_0 : Int) (a0_1 : Int) (a0_2 : Int) (l0_3 : List (S137)) (l0_4 : List (S135)) (a1 : Int) : Option (Int) := spec_l12Running.l0 k a1 0 a0_0 a0_1 a0_2 l0_3 l0_4
theorem spec_l12Running.mono_l : ∀ k, (∀ y0 y1 y2 y3 y4 y5 y6, LeO (spec_l12Running.l0 k y0 y1 y2 y3 y4 y5 y6) (spec_l12Running.l0 (k + 1) y0 y1 y2 y3 y4 y5 y6))
 | 0 => fun _ _ _ _ _ _ _ r h => by simp [spec_l12Running.l0] at h
 | k + 1 => by
  have ih0 := spec_l12Running.mono_l k
  ·intro y0 y1 y2 y3 y4 y5 y6
   unfold spec_l12Running.l0
   repeat' first
   | (with_reducible exact ih0 _ _ _ _ _ _ _)
   | (with_reducible exact LeO.refl _)
   | (with_reducible exact LeO.none _)
   | (with_reducible refine LeO.ite ?_ ?_)
   | (with_reducible refine LeO.bind ?_ (fun _ => ?_))
   | exact ih0 _ _ _ _ _ _ _
   | exact LeO.none _
   | refine LeO.ite ?_ ?_
   | refine LeO.bind ?_ (fun _ => ?_)
theorem spec_l12Running.mono : ∀ a0 a1 a2 a3 a4 a5 k, LeO (spec_l12Running.f k a0 a1 a2 a3 a4 a5) (spec_l12Running.f (k + 1) a0 a1 a2 a3 a4 a5) := by
 intro a0 a1 a2 a3 a4 a5 k
 have ih0 := spec_l12Running.mono_l k
 unfold spec_l12Running.f
 repeat' first
   | (with_reducible exact ih0 _ _ _ _ _ _ _)
   | (with_reducible exact LeO.refl _)
   | (with_reducible exact LeO.none _)
   | (with_reducible refine LeO.ite ?_ ?_)
   | (with_reducible refine LeO.bind ?_ (fun _ => ?_))
   | exact ih0 _ _ _ _ _ _ _
   | exact LeO.none _
   | refine LeO.ite ?_ ?_
   | refine LeO.bind ?_ (fun _ => ?_)
set_option maxHeartbeats 8000000 in
set_option maxRecDepth 100000 in
theorem spec_l12Running.calls (k : Nat) (a0_0 : Int) (a0_1 : Int) (a0_2 : Int) (A0_3 : Option Addr) (c0_3 : Nat) (l0_3 : List (S137)) (A0_4 : Option Addr) (c0_4 : Nat) (l0_4 : List (S135)) (a1 : Int) (r : Int) (w : World) (hr0_3 : Kd.C k137 w A0_3 l0_3.length l0_3) (hc0_3 : l0_3.length ≤ c0_3) (hr0_4 : Kd.C k135 w A0_4 l0_4.length l0_4) (hc0_4 : l0_4.length ≤ c0_4) (h : spec_l12Running.f k a0_0 a0_1 a0_2 l0_3 l0_4 a1 = some r) :
  Calls Try.prog 99 #[.agg #[.int .i64 a0_0, .int .i64 a0_1, .int .i64 a0_2, .slice A0_3 l0_3.length c0_3, .slice A0_4 l0_4.length c0_4], .int .i64 a1] w fun e w' => e = .returned (.int .i64 r) ∧ Below w.heap.size w w' := by
 have hu25 := Try.underlying25
 have hu135 := Try.underlying135
 have HR0_3 := Aside0.mk hr0_3
 have HC0_3 := Aside0.mk hc0_3
 clear hr0_3 hc0_3
 have HR0_4 := Aside0.mk hr0_4
 have HC0_4 := Aside0.mk hc0_4
 clear hr0_4 hc0_4
 have HB := Aside0.mk (Below.refl w.heap.size w)
 have H : (spec_l12Running.l0 k a1 0 a0_0 a0_1 a0_2 l0_3 l0_4) = some r := h
 clear h
 have H' := Aside0.mk H
 clear H
 go_enter Try.func99, Try.ntmps99
 have go_ := True.intro
 repeat ((first | go_quiet (first | ((with_reducible refine gate_dst (N := 2) rfl ?_); refine box_event ?hg (N := 2) ?hd (cs := #[.int .i64 a0_0, .int .i64 a0_1, .int .i64 a0_2, .slice A0_3 l0_3.length c0_3, .slice A0_4 l0_4.length c0_4]) (t := 25) ?hr ?_; (case hd => rfl); (case hg => rfl); (case hr => first | (go_simp; done) | (go_simp; rfl)); intro gb634 hg w3 hbox hb; have n0_ := Aside0.mk (below_step (bw HB.out) hb); have n1_ := Aside0.mk (hbox); have n2_ := ge_ hg HB.out; have n3_ := ge_ hg HB.out; clear HB; have HB := n0_; have BK634 := n1_; have GW634 := n2_; have GE634 := n3_; clear n0_ n1_ n2_ n3_; clear hb hbox hg)) | clear go_); go_wp2_with (first | ((with_reducible refine gate_dst (N := 2) rfl ?_); refine box_event ?hg (N := 2) ?hd (cs := #[.int .i64 a0_0, .int .i64 a0_1, .int .i64 a0_2, .slice A0_3 l0_3.length c0_3, .slice A0_4 l0_4.length c0_4]) (t := 25) ?hr ?_; (case hd => rfl); (case hg => rfl); (case hr => first | (go_simp; done) | (go_simp; rfl)); intro gb634 hg w3 hbox hb; have n0_ := Aside0.mk (below_step (bw HB.out) hb); have n1_ := Aside0.mk (hbox); have n2_ := ge_ hg HB.out; have n3_ := ge_ hg HB.out; clear HB; have HB := n0_; have BK634 := n1_; have GW634 := n2_; have GE634 := n3_; clear n0_ n1_ n2_ n3_; clear hb hbox hg)))
 go_loopg [5] k (fun kq v5 w' => ∃ (x5_1 : Int), v5 = .int .i64 x5_1 ∧ Aside0 (spec_l12Running.l0 kq a1 x5_1 a0_0 a0_1 a0_2 l0_3 l0_4 = some r) ∧ Aside0 (kq ≤ k) ∧ Aside0 (w'.heap[gb634]? = some (.cells #[.int .i64 a0_0, .int .i64 a0_1, .int .i64 a0_2, (.slice A0_3 l0_3.length c0_3), (.slice A0_4 l0_4.length c0_4)] 25 (0, 0))) ∧ Aside0 (Below w.heap.size w w'))
 case atStart => exact ⟨(0), (by first | rfl | (simp; done) | (simp [*]; done)), H', ⟨Nat.le_refl _⟩, ⟨bs BK634.out⟩, ⟨by repeat (first | (with_reducible first | exact bw HB.out | refine bset ?_ (by assumption) | apply below_alloc | apply pw_below_drewN | apply below_drew1) | exact HB.out)⟩⟩
 case round =>
  clear H'
  try clear p2
  obtain ⟨x5_1, rfl, HA, HK1, BK634, HB⟩ := hrel
  cases gk with
  | zero => exact absurd HA.out (by simp [spec_l12Running.l0])
  | succ k1 =>
   have H := HA.out
   clear HA
   simp only [spec_l12Running.l0] at H
   by_cases c4 : x5_1 < (l0_4.length : Int)
   ·rw [if_pos c4] at H
    have c4b0 : decide (x5_1 < (l0_4.length : Int)) = true := decide_eq_true c4
    clear c4
    by_cases c5 : 0 ≤ x5_1
    ·rw [if_pos c5] at H
     have c5b0 : decide (0 ≤ x5_1) = true := decide_eq_true c5
     clear c5
     by_cases c6 : ((rd_T135 l0_4 x5_1).f1) = a1
     ·rw [if_pos c6] at H
      have c6b0 : (((rd_T135 l0_4 x5_1).f1) == a1) = true := beq_iff_eq.mpr c6
      have c6b1 : (((rd_T135 l0_4 x5_1).f1) != a1) = false := bne_eq_false_iff_eq.mpr c6
      clear c6
      by_cases c7 : ((rd_T135 l0_4 x5_1).f2) ≤ a0_2
      ·rw [if_pos c7] at H
       have c7b0 : decide (((rd_T135 l0_4 x5_1).f2) ≤ a0_2) = true := decide_eq_true c7
       clear c7
       by_cases c8 : 0 ≤ ((rd_T135 l0_4 x5_1).f0)
       ·rw [if_pos c8] at H
        have c8b0 : decide (0 ≤ ((rd_T135 l0_4 x5_1).f0)) = true := decide_eq_true c8
        clear c8
        by_cases c9 : ((rd_T135 l0_4 x5_1).f0) < (l0_3.length : Int)
        ·rw [if_pos c9] at H
         have c9b0 : decide (((rd_T135 l0_4 x5_1).f0) < (l0_3.length : Int)) = true := decide_eq_true c9
         clear c9
         by_cases c10 : (wrap64 (((rd_T135 l0_4 x5_1).f2) + ((rd_T137 l0_3 ((rd_T135 l0_4 x5_1).f0)).f0))) > a0_2
         ·rw [if_pos c10] at H
          have c10b0 : decide (a0_2 < (wrap64 (((rd_T135 l0_4 x5_1).f2) + ((rd_T137 l0_3 ((rd_T135 l0_4 x5_1).f0)).f0)))) = true := decide_eq_true c10
          clear c10
          obtain rfl := Option.some.inj H
          have hcz11_0 := b5_0 BK634.out
          have hcz11_1 := b5_1 BK634.out
          have hcz11_2 := b5_2 BK634.out
          have hcz11_3 := b5_3 BK634.out
          have hcz11_4 := b5_4 BK634.out
          have hfz11_0 := blk_frozen BK634.out 0
          have hfz11_1 := blk_frozen BK634.out 1
          have hfz11_2 := blk_frozen BK634.out 2
          have hfz11_3 := blk_frozen BK634.out 3
          have hfz11_4 := blk_frozen BK634.out 4
          have p635 : 0 ≤ (x5_1 : Int) := of_decide_eq_true (by first | (with_reducible assumption) | assumption)
          have q635 : x5_1 < (l0_4.length : Int) := of_decide_eq_true (by first | (with_reducible assumption) | assumption)
          obtain ⟨ad635, e635, hx635_0, hx635_1, hx635_2⟩ := at_T135 HR0_4.out x5_1 p635 q635
          cases e635
          replace hx635_0 := (HB.out.cell (World.block_lt_of_cell? w _ hx635_0)).trans hx635_0
          replace hx635_1 := (HB.out.cell (World.block_lt_of_cell? w _ hx635_1)).trans hx635_1
          replace hx635_2 := (HB.out.cell (World.block_lt_of_cell? w _ hx635_2)).trans hx635_2
          replace p635 := eq_true p635
          replace q635 := eq_true q635
          have go_ := True.intro
          repeat ((first | go_quiet (first | ((with_reducible refine gate_dst (N := 6) rfl ?_); refine box_event ?hg (N := 6) ?hd (cs := #[.int .i64 0, .int .i64 0, .int .i64 0]) (t := 135) ?hr ?_; (case hd => rfl); (case hg => rfl); (case hr => first | (go_simp; done) | (go_simp; rfl)); intro gb636 hg w12 hbox hb; have n0_ := Aside0.mk (blk_below (bs BK634.out) hb); have n1_ := Aside0.mk (below_step (by repeat (first | (with_reducible first | exact bw HB.out | refine bset ?_ (by assumption) | apply below_alloc | apply pw_below_drewN | apply below_drew1) | exact HB.out)) hb); have n2_ := Aside0.mk (hbox); have n3_ := Aside0.mk ((by rw [hg]; exact (below_size (by repeat (first | (with_reducible first | exact bw HB.out | refine bset ?_ (by assumption) | apply below_alloc | apply pw_below_drewN | apply below_drew1) | exact HB.out))) : w.heap.size ≤ gb636)); have n4_ := Aside0.mk ((by rw [hg]; exact (below_size (by repeat (first | (with_reducible first | exact bw HB.out | refine bset ?_ (by assumption) | apply below_alloc | apply pw_below_drewN | apply below_drew1) | exact HB.out))) : w.heap.size ≤ gb636)); have n5_ := ne_ hg BK634.out; have n6_ := en_ hg BK634.out; clear BK634; clear HB; have BK634 := n0_; have HB := n1_; have BK636 := n2_; have GW636 := n3_; have GE636 := n4_; have NB634_636 := n5_; have NB636_634 := n6_; clear n0_ n1_ n2_ n3_ n4_ n5_ n6_; clear hb hbox hg; have hnb13 := NB636_634.out; have hnc13 := NB634_636.out; have hcz14_0 := b3_0 BK636.out; have hcz14_1 := b3_1 BK636.out; have hcz14_2 := b3_2 BK636.out; have hfz14_0 := blk_frozen BK636.out 0; have hfz14_1 := blk_frozen BK636.out 1; have hfz14_2 := blk_frozen BK636.out 2; have hcz15_0 := b5_0 BK634.out; have hcz15_1 := b5_1 BK634.out; have hcz15_2 := b5_2 BK634.out; have hcz15_3 := b5_3 BK634.out; have hcz15_4 := b5_4 BK634.out; have hfz15_0 := blk_frozen BK634.out 0; have hfz15_1 := blk_frozen BK634.out 1; have hfz15_2 := blk_frozen BK634.out 2; have hfz15_3 := blk_frozen BK634.out 3; have hfz15_4 := blk_frozen BK634.out 4; have p637 : 0 ≤ (((rd_T135 l0_4 x5_1).f0) : Int) := of_decide_eq_true (by first | (with_reducible assumption) | assumption); have q637 : ((rd_T135 l0_4 x5_1).f0) < (l0_3.length : Int) := of_decide_eq_true (by first | (with_reducible assumption) | assumption); obtain ⟨ad637, e637, hx637_0, hx637_1, hx637_2, hx637_3⟩ := at_T137 HR0_3.out ((rd_T135 l0_4 x5_1).f0) p637 q637; cases e637; have hn637_0 : ad637.block ≠ gb636 := Nat.ne_of_lt (Nat.lt_of_lt_of_le (by have := World.block_lt_of_cell? _ _ hx637_0; first | rwa [add_block] at this | exact this) GW636.out); have hn637_1 : ad637.block ≠ gb636 := Nat.ne_of_lt (Nat.lt_of_lt_of_le (by have := World.block_lt_of_cell? _ _ hx637_0; first | rwa [add_block] at this | exact this) GW636.out); have hn637_2 : ad637.block ≠ gb636 := Nat.ne_of_lt (Nat.lt_of_lt_of_le (by have := World.block_lt_of_cell? _ _ hx637_0; first | rwa [add_block] at this | exact this) GW636.out); replace hx637_0 := (HB.out.cell (World.block_lt_of_cell? w _ hx637_0)).trans hx637_0; replace hx637_1 := (HB.out.cell (World.block_lt_of_cell? w _ hx637_1)).trans hx637_1; replace hx637_2 := (HB.out.cell (World.block_lt_of_cell? w _ hx637_2)).trans hx637_2; replace hx637_3 := (HB.out.cell (World.block_lt_of_cell? w _ hx637_3)).trans hx637_3; replace hx637_0 := (cell_far (p := ⟨gb636, 0, none⟩) (by first | (rw [add_block]; exact hn637_0) | (show (Addr.add _ _).block ≠ _; rw [add_block]; exact hn637_0) | exact hn637_0) (.int .i64 ((rd_T135 l0_4 x5_1).f0))).trans hx637_0; replace hx637_1 := (cell_far (p := ⟨gb636, 0, none⟩) (by first | (rw [add_block]; exact hn637_0) | (show (Addr.add _ _).block ≠ _; rw [add_block]; exact hn637_0) | exact hn637_0) (.int .i64 ((rd_T135 l0_4 x5_1).f0))).trans hx637_1; replace hx637_2 := (cell_far (p := ⟨gb636, 0, none⟩) (by first | (rw [add_block]; exact hn637_0) | (show (Addr.add _ _).block ≠ _; rw [add_block]; exact hn637_0) | exact hn637_0) (.int .i64 ((rd_T135 l0_4 x5_1).f0))).trans hx637_2; replace hx637_3 := (cell_far (p := ⟨gb636, 0, none⟩) (by first | (rw [add_block]; exact hn637_0) | (show (Addr.add _ _).block ≠ _; rw [add_block]; exact hn637_0) | exact hn637_0) (.int .i64 ((rd_T135 l0_4 x5_1).f0))).trans hx637_3; replace hx637_0 := (cell_far (p := ⟨gb636, 1, none⟩) (by first | (rw [add_block]; exact hn637_1) | (show (Addr.add _ _).block ≠ _; rw [add_block]; exact hn637_1) | exact hn637_1) (.int .i64 ((rd_T135 l0_4 x5_1).f1))).trans hx637_0; replace hx637_1 := (cell_far (p := ⟨gb636, 1, none⟩) (by first | (rw [add_block]; exact hn637_1) | (show (Addr.add _ _).block ≠ _; rw [add_block]; exact hn637_1) | exact hn637_1) (.int .i64 ((rd_T135 l0_4 x5_1).f1))).trans hx637_1; replace hx637_2 := (cell_far (p := ⟨gb636, 1, none⟩) (by first | (rw [add_block]; exact hn637_1) | (show (Addr.add _ _).block ≠ _; rw [add_block]; exact hn637_1) | exact hn637_1) (.int .i64 ((rd_T135 l0_4 x5_1).f1))).trans hx637_2; replace hx637_3 := (cell_far (p := ⟨gb636, 1, none⟩) (by first | (rw [add_block]; exact hn637_1) | (show (Addr.add _ _).block ≠ _; rw [add_block]; exact hn637_1) | exact hn637_1) (.int .i64 ((rd_T135 l0_4 x5_1).f1))).trans hx637_3; replace hx637_0 := (cell_far (p := ⟨gb636, 2, none⟩) (by first | (rw [add_block]; exact hn637_2) | (show (Addr.add _ _).block ≠ _; rw [add_block]; exact hn637_2) | exact hn637_2) (.int .i64 ((rd_T135 l0_4 x5_1).f2))).trans hx637_0; replace hx637_1 := (cell_far (p := ⟨gb636, 2, none⟩) (by first | (rw [add_block]; exact hn637_2) | (show (Addr.add _ _).block ≠ _; rw [add_block]; exact hn637_2) | exact hn637_2) (.int .i64 ((rd_T135 l0_4 x5_1).f2))).trans hx637_1; replace hx637_2 := (cell_far (p := ⟨gb636, 2, none⟩) (by first | (rw [add_block]; exact hn637_2) | (show (Addr.add _ _).block ≠ _; rw [add_block]; exact hn637_2) | exact hn637_2) (.int .i64 ((rd_T135 l0_4 x5_1).f2))).trans hx637_2; replace hx637_3 := (cell_far (p := ⟨gb636, 2, none⟩) (by first | (rw [add_block]; exact hn637_2) | (show (Addr.add _ _).block ≠ _; rw [add_block]; exact hn637_2) | exact hn637_2) (.int .i64 ((rd_T135 l0_4 x5_1).f2))).trans hx637_3; (try have hy637_0 := fun (n_ : Nat) => (show (((((w12.drewN n_).setCell ⟨gb636, 0, none⟩ (.int .i64 ((rd_T135 l0_4 x5_1).f0))).setCell ⟨gb636, 1, none⟩ (.int .i64 ((rd_T135 l0_4 x5_1).f1))).setCell ⟨gb636, 2, none⟩ (.int .i64 ((rd_T135 l0_4 x5_1).f2)))).cell? _ = some _ from hx637_0)); (try have hy637_1 := fun (n_ : Nat) => (show (((((w12.drewN n_).setCell ⟨gb636, 0, none⟩ (.int .i64 ((rd_T135 l0_4 x5_1).f0))).setCell ⟨gb636, 1, none⟩ (.int .i64 ((rd_T135 l0_4 x5_1).f1))).setCell ⟨gb636, 2, none⟩ (.int .i64 ((rd_T135 l0_4 x5_1).f2)))).cell? _ = some _ from hx637_1)); (try have hy637_2 := fun (n_ : Nat) => (show (((((w12.drewN n_).setCell ⟨gb636, 0, none⟩ (.int .i64 ((rd_T135 l0_4 x5_1).f0))).setCell ⟨gb636, 1, none⟩ (.int .i64 ((rd_T135 l0_4 x5_1).f1))).setCell ⟨gb636, 2, none⟩ (.int .i64 ((rd_T135 l0_4 x5_1).f2)))).cell? _ = some _ from hx637_2)); (try have hy637_3 := fun (n_ : Nat) => (show (((((w12.drewN n_).setCell ⟨gb636, 0, none⟩ (.int .i64 ((rd_T135 l0_4 x5_1).f0))).setCell ⟨gb636, 1, none⟩ (.int .i64 ((rd_T135 l0_4 x5_1).f1))).setCell ⟨gb636, 2, none⟩ (.int .i64 ((rd_T135 l0_4 x5_1).f2)))).cell? _ = some _ from hx637_3)); clear hn637_0; clear hn637_1; clear hn637_2; replace p637 := eq_true p637; replace q637 := eq_true q637)) | clear go_); go_wp2_with (first | ((with_reducible refine gate_dst (N := 6) rfl ?_); refine box_event ?hg (N := 6) ?hd (cs := #[.int .i64 0, .int .i64 0, .int .i64 0]) (t := 135) ?hr ?_; (case hd => rfl); (case hg => rfl); (case hr => first | (go_simp; done) | (go_simp; rfl)); intro gb636 hg w12 hbox hb; have n0_ := Aside0.mk (blk_below (bs BK634.out) hb); have n1_ := Aside0.mk (below_step (by repeat (first | (with_reducible first | exact bw HB.out | refine bset ?_ (by assumption) | apply below_alloc | apply pw_below_drewN | apply below_drew1) | exact HB.out)) hb); have n2_ := Aside0.mk (hbox); have n3_ := Aside0.mk ((by rw [hg]; exact (below_size (by repeat (first | (with_reducible first | exact bw HB.out | refine bset ?_ (by assumption) | apply below_alloc | apply pw_below_drewN | apply below_drew1) | exact HB.out))) : w.heap.size ≤ gb636)); have n4_ := Aside0.mk ((by rw [hg]; exact (below_size (by repeat (first | (with_reducible first | exact bw HB.out | refine bset ?_ (by assumption) | apply below_alloc | apply pw_below_drewN | apply below_drew1) | exact HB.out))) : w.heap.size ≤ gb636)); have n5_ := ne_ hg BK634.out; have n6_ := en_ hg BK634.out; clear BK634; clear HB; have BK634 := n0_; have HB := n1_; have BK636 := n2_; have GW636 := n3_; have GE636 := n4_; have NB634_636 := n5_; have NB636_634 := n6_; clear n0_ n1_ n2_ n3_ n4_ n5_ n6_; clear hb hbox hg; have hnb13 := NB636_634.out; have hnc13 := NB634_636.out; have hcz14_0 := b3_0 BK636.out; have hcz14_1 := b3_1 BK636.out; have hcz14_2 := b3_2 BK636.out; have hfz14_0 := blk_frozen BK636.out 0; have hfz14_1 := blk_frozen BK636.out 1; have hfz14_2 := blk_frozen BK636.out 2; have hcz15_0 := b5_0 BK634.out; have hcz15_1 := b5_1 BK634.out; have hcz15_2 := b5_2 BK634.out; have hcz15_3 := b5_3 BK634.out; have hcz15_4 := b5_4 BK634.out; have hfz15_0 := blk_frozen BK634.out 0; have hfz15_1 := blk_frozen BK634.out 1; have hfz15_2 := blk_frozen BK634.out 2; have hfz15_3 := blk_frozen BK634.out 3; have hfz15_4 := blk_frozen BK634.out 4; have p637 : 0 ≤ (((rd_T135 l0_4 x5_1).f0) : Int) := of_decide_eq_true (by first | (with_reducible assumption) | assumption); have q637 : ((rd_T135 l0_4 x5_1).f0) < (l0_3.length : Int) := of_decide_eq_true (by first | (with_reducible assumption) | assumption); obtain ⟨ad637, e637, hx637_0, hx637_1, hx637_2, hx637_3⟩ := at_T137 HR0_3.out ((rd_T135 l0_4 x5_1).f0) p637 q637; cases e637; have hn637_0 : ad637.block ≠ gb636 := Nat.ne_of_lt (Nat.lt_of_lt_of_le (by have := World.block_lt_of_cell? _ _ hx637_0; first | rwa [add_block] at this | exact this) GW636.out); have hn637_1 : ad637.block ≠ gb636 := Nat.ne_of_lt (Nat.lt_of_lt_of_le (by have := World.block_lt_of_cell? _ _ hx637_0; first | rwa [add_block] at this | exact this) GW636.out); have hn637_2 : ad637.block ≠ gb636 := Nat.ne_of_lt (Nat.lt_of_lt_of_le (by have := World.block_lt_of_cell? _ _ hx637_0; first | rwa [add_block] at this | exact this) GW636.out); replace hx637_0 := (HB.out.cell (World.block_lt_of_cell? w _ hx637_0)).trans hx637_0; replace hx637_1 := (HB.out.cell (World.block_lt_of_cell? w _ hx637_1)).trans hx637_1; replace hx637_2 := (HB.out.cell (World.block_lt_of_cell? w _ hx637_2)).trans hx637_2; replace hx637_3 := (HB.out.cell (World.block_lt_of_cell? w _ hx637_3)).trans hx637_3; replace hx637_0 := (cell_far (p := ⟨gb636, 0, none⟩) (by first | (rw [add_block]; exact hn637_0) | (show (Addr.add _ _).block ≠ _; rw [add_block]; exact hn637_0) | exact hn637_0) (.int .i64 ((rd_T135 l0_4 x5_1).f0))).trans hx637_0; replace hx637_1 := (cell_far (p := ⟨gb636, 0, none⟩) (by first | (rw [add_block]; exact hn637_0) | (show (Addr.add _ _).block ≠ _; rw [add_block]; exact hn637_0) | exact hn637_0) (.int .i64 ((rd_T135 l0_4 x5_1).f0))).trans hx637_1; replace hx637_2 := (cell_far (p := ⟨gb636, 0, none⟩) (by first | (rw [add_block]; exact hn637_0) | (show (Addr.add _ _).block ≠ _; rw [add_block]; exact hn637_0) | exact hn637_0) (.int .i64 ((rd_T135 l0_4 x5_1).f0))).trans hx637_2; replace hx637_3 := (cell_far (p := ⟨gb636, 0, none⟩) (by first | (rw [add_block]; exact hn637_0) | (show (Addr.add _ _).block ≠ _; rw [add_block]; exact hn637_0) | exact hn637_0) (.int .i64 ((rd_T135 l0_4 x5_1).f0))).trans hx637_3; replace hx637_0 := (cell_far (p := ⟨gb636, 1, none⟩) (by first | (rw [add_block]; exact hn637_1) | (show (Addr.add _ _).block ≠ _; rw [add_block]; exact hn637_1) | exact hn637_1) (.int .i64 ((rd_T135 l0_4 x5_1).f1))).trans hx637_0; replace hx637_1 := (cell_far (p := ⟨gb636, 1, none⟩) (by first | (rw [add_block]; exact hn637_1) | (show (Addr.add _ _).block ≠ _; rw [add_block]; exact hn637_1) | exact hn637_1) (.int .i64 ((rd_T135 l0_4 x5_1).f1))).trans hx637_1; replace hx637_2 := (cell_far (p := ⟨gb636, 1, none⟩) (by first | (rw [add_block]; exact hn637_1) | (show (Addr.add _ _).block ≠ _; rw [add_block]; exact hn637_1) | exact hn637_1) (.int .i64 ((rd_T135 l0_4 x5_1).f1))).trans hx637_2; replace hx637_3 := (cell_far (p := ⟨gb636, 1, none⟩) (by first | (rw [add_block]; exact hn637_1) | (show (Addr.add _ _).block ≠ _; rw [add_block]; exact hn637_1) | exact hn637_1) (.int .i64 ((rd_T135 l0_4 x5_1).f1))).trans hx637_3; replace hx637_0 := (cell_far (p := ⟨gb636, 2, none⟩) (by first | (rw [add_block]; exact hn637_2) | (show (Addr.add _ _).block ≠ _; rw [add_block]; exact hn637_2) | exact hn637_2) (.int .i64 ((rd_T135 l0_4 x5_1).f2))).trans hx637_0; replace hx637_1 := (cell_far (p := ⟨gb636, 2, none⟩) (by first | (rw [add_block]; exact hn637_2) | (show (Addr.add _ _).block ≠ _; rw [add_block]; exact hn637_2) | exact hn637_2) (.int .i64 ((rd_T135 l0_4 x5_1).f2))).trans hx637_1; replace hx637_2 := (cell_far (p := ⟨gb636, 2, none⟩) (by first | (rw [add_block]; exact hn637_2) | (show (Addr.add _ _).block ≠ _; rw [add_block]; exact hn637_2) | exact hn637_2) (.int .i64 ((rd_T135 l0_4 x5_1).f2))).trans hx637_2; replace hx637_3 := (cell_far (p := ⟨gb636, 2, none⟩) (by first | (rw [add_block]; exact hn637_2) | (show (Addr.add _ _).block ≠ _; rw [add_block]; exact hn637_2) | exact hn637_2) (.int .i64 ((rd_T135 l0_4 x5_1).f2))).trans hx637_3; (try have hy637_0 := fun (n_ : Nat) => (show (((((w12.drewN n_).setCell ⟨gb636, 0, none⟩ (.int .i64 ((rd_T135 l0_4 x5_1).f0))).setCell ⟨gb636, 1, none⟩ (.int .i64 ((rd_T135 l0_4 x5_1).f1))).setCell ⟨gb636, 2, none⟩ (.int .i64 ((rd_T135 l0_4 x5_1).f2)))).cell? _ = some _ from hx637_0)); (try have hy637_1 := fun (n_ : Nat) => (show (((((w12.drewN n_).setCell ⟨gb636, 0, none⟩ (.int .i64 ((rd_T135 l0_4 x5_1).f0))).setCell ⟨gb636, 1, none⟩ (.int .i64 ((rd_T135 l0_4 x5_1).f1))).setCell ⟨gb636, 2, none⟩ (.int .i64 ((rd_T135 l0_4 x5_1).f2)))).cell? _ = some _ from hx637_1)); (try have hy637_2 := fun (n_ : Nat) => (show (((((w12.drewN n_).setCell ⟨gb636, 0, none⟩ (.int .i64 ((rd_T135 l0_4 x5_1).f0))).setCell ⟨gb636, 1, none⟩ (.int .i64 ((rd_T135 l0_4 x5_1).f1))).setCell ⟨gb636, 2, none⟩ (.int .i64 ((rd_T135 l0_4 x5_1).f2)))).cell? _ = some _ from hx637_2)); (try have hy637_3 := fun (n_ : Nat) => (show (((((w12.drewN n_).setCell ⟨gb636, 0, none⟩ (.int .i64 ((rd_T135 l0_4 x5_1).f0))).setCell ⟨gb636, 1, none⟩ (.int .i64 ((rd_T135 l0_4 x5_1).f1))).setCell ⟨gb636, 2, none⟩ (.int .i64 ((rd_T135 l0_4 x5_1).f2)))).cell? _ = some _ from hx637_3)); clear hn637_0; clear hn637_1; clear hn637_2; replace p637 := eq_true p637; replace q637 := eq_true q637)))
          go_ret
          exact ⟨by first | rfl | (simp [errW_none, errW_some] <;> rfl) | (simp [*, errW_none, errW_some] <;> rfl), by repeat (first | (with_reducible first | exact bw HB.out | refine bset ?_ (by assumption) | apply below_alloc | apply pw_below_drewN | apply below_drew1) | exact HB.out)⟩
         ·rw [if_neg c10] at H
          have c10b0 : decide (a0_2 < (wrap64 (((rd_T135 l0_4 x5_1).f2) + ((rd_T137 l0_3 ((rd_T135 l0_4 x5_1).f0)).f0)))) = false := decide_eq_false c10
          clear c10
          have H' := Aside0.mk H
          clear H
          have hcz16_0 := b5_0 BK634.out
          have hcz16_1 := b5_1 BK634.out
          have hcz16_2 := b5_2 BK634.out
          have hcz16_3 := b5_3 BK634.out
          have hcz16_4 := b5_4 BK634.out
          have hfz16_0 := blk_frozen BK634.out 0
          have hfz16_1 := blk_frozen BK634.out 1
          have hfz16_2 := blk_frozen BK634.out 2
          have hfz16_3 := blk_frozen BK634.out 3
          have hfz16_4 := blk_frozen BK634.out 4
          have p635 : 0 ≤ (x5_1 : Int) := of_decide_eq_true (by first | (with_reducible assumption) | assumption)
          have q635 : x5_1 < (l0_4.length : Int) := of_decide_eq_true (by first | (with_reducible assumption) | assumption)
          obtain ⟨ad635, e635, hx635_0, hx635_1, hx635_2⟩ := at_T135 HR0_4.out x5_1 p635 q635
          cases e635
          replace hx635_0 := (HB.out.cell (World.block_lt_of_cell? w _ hx635_0)).trans hx635_0
          replace hx635_1 := (HB.out.cell (World.block_lt_of_cell? w _ hx635_1)).trans hx635_1
          replace hx635_2 := (HB.out.cell (World.block_lt_of_cell? w _ hx635_2)).trans hx635_2
          replace p635 := eq_true p635
          replace q635 := eq_true q635
          have go_ := True.intro
          repeat ((first | go_quiet (first | ((with_reducible refine gate_dst (N := 6) rfl ?_); refine box_event ?hg (N := 6) ?hd (cs := #[.int .i64 0, .int .i64 0, .int .i64 0]) (t := 135) ?hr ?_; (case hd => rfl); (case hg => rfl); (case hr => first | (go_simp; done) | (go_simp; rfl)); intro gb636 hg w17 hbox hb; have n0_ := Aside0.mk (blk_below (bs BK634.out) hb); have n1_ := Aside0.mk (below_step (by repeat (first | (with_reducible first | exact bw HB.out | refine bset ?_ (by assumption) | apply below_alloc | apply pw_below_drewN | apply below_drew1) | exact HB.out)) hb); have n2_ := Aside0.mk (hbox); have n3_ := Aside0.mk ((by rw [hg]; exact (below_size (by repeat (first | (with_reducible first | exact bw HB.out | refine bset ?_ (by assumption) | apply below_alloc | apply pw_below_drewN | apply below_drew1) | exact HB.out))) : w.heap.size ≤ gb636)); have n4_ := Aside0.mk ((by rw [hg]; exact (below_size (by repeat (first | (with_reducible first | exact bw HB.out | refine bset ?_ (by assumption) | apply below_alloc | apply pw_below_drewN | apply below_drew1) | exact HB.out))) : w.heap.size ≤ gb636)); have n5_ := ne_ hg BK634.out; have n6_ := en_ hg BK634.out; clear BK634; clear HB; have BK634 := n0_; have HB := n1_; have BK636 := n2_; have GW636 := n3_; have GE636 := n4_; have NB634_636 := n5_; have NB636_634 := n6_; clear n0_ n1_ n2_ n3_ n4_ n5_ n6_; clear hb hbox hg; have hnb18 := NB636_634.out; have hnc18 := NB634_636.out; have hcz19_0 := b3_0 BK636.out; have hcz19_1 := b3_1 BK636.out; have hcz19_2 := b3_2 BK636.out; have hfz19_0 := blk_frozen BK636.out 0; have hfz19_1 := blk_frozen BK636.out 1; have hfz19_2 := blk_frozen BK636.out 2; have hcz20_0 := b5_0 BK634.out; have hcz20_1 := b5_1 BK634.out; have hcz20_2 := b5_2 BK634.out; have hcz20_3 := b5_3 BK634.out; have hcz20_4 := b5_4 BK634.out; have hfz20_0 := blk_frozen BK634.out 0; have hfz20_1 := blk_frozen BK634.out 1; have hfz20_2 := blk_frozen BK634.out 2; have hfz20_3 := blk_frozen BK634.out 3; have hfz20_4 := blk_frozen BK634.out 4; have p637 : 0 ≤ (((rd_T135 l0_4 x5_1).f0) : Int) := of_decide_eq_true (by first | (with_reducible assumption) | assumption); have q637 : ((rd_T135 l0_4 x5_1).f0) < (l0_3.length : Int) := of_decide_eq_true (by first | (with_reducible assumption) | assumption); obtain ⟨ad637, e637, hx637_0, hx637_1, hx637_2, hx637_3⟩ := at_T137 HR0_3.out ((rd_T135 l0_4 x5_1).f0) p637 q637; cases e637; have hn637_0 : ad637.block ≠ gb636 := Nat.ne_of_lt (Nat.lt_of_lt_of_le (by have := World.block_lt_of_cell? _ _ hx637_0; first | rwa [add_block] at this | exact this) GW636.out); have hn637_1 : ad637.block ≠ gb636 := Nat.ne_of_lt (Nat.lt_of_lt_of_le (by have := World.block_lt_of_cell? _ _ hx637_0; first | rwa [add_block] at this | exact this) GW636.out); have hn637_2 : ad637.block ≠ gb636 := Nat.ne_of_lt (Nat.lt_of_lt_of_le (by have := World.block_lt_of_cell? _ _ hx637_0; first | rwa [add_block] at this | exact this) GW636.out); replace hx637_0 := (HB.out.cell (World.block_lt_of_cell? w _ hx637_0)).trans hx637_0; replace hx637_1 := (HB.out.cell (World.block_lt_of_cell? w _ hx637_1)).trans hx637_1; replace hx637_2 := (HB.out.cell (World.block_lt_of_cell? w _ hx637_2)).trans hx637_2; replace hx637_3 := (HB.out.cell (World.block_lt_of_cell? w _ hx637_3)).trans hx637_3; replace hx637_0 := (cell_far (p := ⟨gb636, 0, none⟩) (by first | (rw [add_block]; exact hn637_0) | (show (Addr.add _ _).block ≠ _; rw [add_block]; exact hn637_0) | exact hn637_0) (.int .i64 ((rd_T135 l0_4 x5_1).f0))).trans hx637_0; replace hx637_1 := (cell_far (p := ⟨gb636, 0, none⟩) (by first | (rw [add_block]; exact hn637_0) | (show (Addr.add _ _).block ≠ _; rw [add_block]; exact hn637_0) | exact hn637_0) (.int .i64 ((rd_T135 l0_4 x5_1).f0))).trans hx637_1; replace hx637_2 := (cell_far (p := ⟨gb636, 0, none⟩) (by first | (rw [add_block]; exact hn637_0) | (show (Addr.add _ _).block ≠ _; rw [add_block]; exact hn637_0) | exact hn637_0) (.int .i64 ((rd_T135 l0_4 x5_1).f0))).trans hx637_2; replace hx637_3 := (cell_far (p := ⟨gb636, 0, none⟩) (by first | (rw [add_block]; exact hn637_0) | (show (Addr.add _ _).block ≠ _; rw [add_block]; exact hn637_0) | exact hn637_0) (.int .i64 ((rd_T135 l0_4 x5_1).f0))).trans hx637_3; replace hx637_0 := (cell_far (p := ⟨gb636, 1, none⟩) (by first | (rw [add_block]; exact hn637_1) | (show (Addr.add _ _).block ≠ _; rw [add_block]; exact hn637_1) | exact hn637_1) (.int .i64 ((rd_T135 l0_4 x5_1).f1))).trans hx637_0; replace hx637_1 := (cell_far (p := ⟨gb636, 1, none⟩) (by first | (rw [add_block]; exact hn637_1) | (show (Addr.add _ _).block ≠ _; rw [add_block]; exact hn637_1) | exact hn637_1) (.int .i64 ((rd_T135 l0_4 x5_1).f1))).trans hx637_1; replace hx637_2 := (cell_far (p := ⟨gb636, 1, none⟩) (by first | (rw [add_block]; exact hn637_1) | (show (Addr.add _ _).block ≠ _; rw [add_block]; exact hn637_1) | exact hn637_1) (.int .i64 ((rd_T135 l0_4 x5_1).f1))).trans hx637_2; replace hx637_3 := (cell_far (p := ⟨gb636, 1, none⟩) (by first | (rw [add_block]; exact hn637_1) | (show (Addr.add _ _).block ≠ _; rw [add_block]; exact hn637_1) | exact hn637_1) (.int .i64 ((rd_T135 l0_4 x5_1).f1))).trans hx637_3; replace hx637_0 := (cell_far (p := ⟨gb636, 2, none⟩) (by first | (rw [add_block]; exact hn637_2) | (show (Addr.add _ _).block ≠ _; rw [add_block]; exact hn637_2) | exact hn637_2) (.int .i64 ((rd_T135 l0_4 x5_1).f2))).trans hx637_0; replace hx637_1 := (cell_far (p := ⟨gb636, 2, none⟩) (by first | (rw [add_block]; exact hn637_2) | (show (Addr.add _ _).block ≠ _; rw [add_block]; exact hn637_2) | exact hn637_2) (.int .i64 ((rd_T135 l0_4 x5_1).f2))).trans hx637_1; replace hx637_2 := (cell_far (p := ⟨gb636, 2, none⟩) (by first | (rw [add_block]; exact hn637_2) | (show (Addr.add _ _).block ≠ _; rw [add_block]; exact hn637_2) | exact hn637_2) (.int .i64 ((rd_T135 l0_4 x5_1).f2))).trans hx637_2; replace hx637_3 := (cell_far (p := ⟨gb636, 2, none⟩) (by first | (rw [add_block]; exact hn637_2) | (show (Addr.add _ _).block ≠ _; rw [add_block]; exact hn637_2) | exact hn637_2) (.int .i64 ((rd_T135 l0_4 x5_1).f2))).trans hx637_3; (try have hy637_0 := fun (n_ : Nat) => (show (((((w17.drewN n_).setCell ⟨gb636, 0, none⟩ (.int .i64 ((rd_T135 l0_4 x5_1).f0))).setCell ⟨gb636, 1, none⟩ (.int .i64 ((rd_T135 l0_4 x5_1).f1))).setCell ⟨gb636, 2, none⟩ (.int .i64 ((rd_T135 l0_4 x5_1).f2)))).cell? _ = some _ from hx637_0)); (try have hy637_1 := fun (n_ : Nat) => (show (((((w17.drewN n_).setCell ⟨gb636, 0, none⟩ (.int .i64 ((rd_T135 l0_4 x5_1).f0))).setCell ⟨gb636, 1, none⟩ (.int .i64 ((rd_T135 l0_4 x5_1).f1))).setCell ⟨gb636, 2, none⟩ (.int .i64 ((rd_T135 l0_4 x5_1).f2)))).cell? _ = some _ from hx637_1)); (try have hy637_2 := fun (n_ : Nat) => (show (((((w17.drewN n_).setCell ⟨gb636, 0, none⟩ (.int .i64 ((rd_T135 l0_4 x5_1).f0))).setCell ⟨gb636, 1, none⟩ (.int .i64 ((rd_T135 l0_4 x5_1).f1))).setCell ⟨gb636, 2, none⟩ (.int .i64 ((rd_T135 l0_4 x5_1).f2)))).cell? _ = some _ from hx637_2)); (try have hy637_3 := fun (n_ : Nat) => (show (((((w17.drewN n_).setCell ⟨gb636, 0, none⟩ (.int .i64 ((rd_T135 l0_4 x5_1).f0))).setCell ⟨gb636, 1, none⟩ (.int .i64 ((rd_T135 l0_4 x5_1).f1))).setCell ⟨gb636, 2, none⟩ (.int .i64 ((rd_T135 l0_4 x5_1).f2)))).cell? _ = some _ from hx637_3)); clear hn637_0; clear hn637_1; clear hn637_2; replace p637 := eq_true p637; replace q637 := eq_true q637)) | clear go_); go_wp2_with (first | ((with_reducible refine gate_dst (N := 6) rfl ?_); refine box_event ?hg (N := 6) ?hd (cs := #[.int .i64 0, .int .i64 0, .int .i64 0]) (t := 135) ?hr ?_; (case hd => rfl); (case hg => rfl); (case hr => first | (go_simp; done) | (go_simp; rfl)); intro gb636 hg w17 hbox hb; have n0_ := Aside0.mk (blk_below (bs BK634.out) hb); have n1_ := Aside0.mk (below_step (by repeat (first | (with_reducible first | exact bw HB.out | refine bset ?_ (by assumption) | apply below_alloc | apply pw_below_drewN | apply below_drew1) | exact HB.out)) hb); have n2_ := Aside0.mk (hbox); have n3_ := Aside0.mk ((by rw [hg]; exact (below_size (by repeat (first | (with_reducible first | exact bw HB.out | refine bset ?_ (by assumption) | apply below_alloc | apply pw_below_drewN | apply below_drew1) | exact HB.out))) : w.heap.size ≤ gb636)); have n4_ := Aside0.mk ((by rw [hg]; exact (below_size (by repeat (first | (with_reducible first | exact bw HB.out | refine bset ?_ (by assumption) | apply below_alloc | apply pw_below_drewN | apply below_drew1) | exact HB.out))) : w.heap.size ≤ gb636)); have n5_ := ne_ hg BK634.out; have n6_ := en_ hg BK634.out; clear BK634; clear HB; have BK634 := n0_; have HB := n1_; have BK636 := n2_; have GW636 := n3_; have GE636 := n4_; have NB634_636 := n5_; have NB636_634 := n6_; clear n0_ n1_ n2_ n3_ n4_ n5_ n6_; clear hb hbox hg; have hnb18 := NB636_634.out; have hnc18 := NB634_636.out; have hcz19_0 := b3_0 BK636.out; have hcz19_1 := b3_1 BK636.out; have hcz19_2 := b3_2 BK636.out; have hfz19_0 := blk_frozen BK636.out 0; have hfz19_1 := blk_frozen BK636.out 1; have hfz19_2 := blk_frozen BK636.out 2; have hcz20_0 := b5_0 BK634.out; have hcz20_1 := b5_1 BK634.out; have hcz20_2 := b5_2 BK634.out; have hcz20_3 := b5_3 BK634.out; have hcz20_4 := b5_4 BK634.out; have hfz20_0 := blk_frozen BK634.out 0; have hfz20_1 := blk_frozen BK634.out 1; have hfz20_2 := blk_frozen BK634.out 2; have hfz20_3 := blk_frozen BK634.out 3; have hfz20_4 := blk_frozen BK634.out 4; have p637 : 0 ≤ (((rd_T135 l0_4 x5_1).f0) : Int) := of_decide_eq_true (by first | (with_reducible assumption) | assumption); have q637 : ((rd_T135 l0_4 x5_1).f0) < (l0_3.length : Int) := of_decide_eq_true (by first | (with_reducible assumption) | assumption); obtain ⟨ad637, e637, hx637_0, hx637_1, hx637_2, hx637_3⟩ := at_T137 HR0_3.out ((rd_T135 l0_4 x5_1).f0) p637 q637; cases e637; have hn637_0 : ad637.block ≠ gb636 := Nat.ne_of_lt (Nat.lt_of_lt_of_le (by have := World.block_lt_of_cell? _ _ hx637_0; first | rwa [add_block] at this | exact this) GW636.out); have hn637_1 : ad637.block ≠ gb636 := Nat.ne_of_lt (Nat.lt_of_lt_of_le (by have := World.block_lt_of_cell? _ _ hx637_0; first | rwa [add_block] at this | exact this) GW636.out); have hn637_2 : ad637.block ≠ gb636 := Nat.ne_of_lt (Nat.lt_of_lt_of_le (by have := World.block_lt_of_cell? _ _ hx637_0; first | rwa [add_block] at this | exact this) GW636.out); replace hx637_0 := (HB.out.cell (World.block_lt_of_cell? w _ hx637_0)).trans hx637_0; replace hx637_1 := (HB.out.cell (World.block_lt_of_cell? w _ hx637_1)).trans hx637_1; replace hx637_2 := (HB.out.cell (World.block_lt_of_cell? w _ hx637_2)).trans hx637_2; replace hx637_3 := (HB.out.cell (World.block_lt_of_cell? w _ hx637_3)).trans hx637_3; replace hx637_0 := (cell_far (p := ⟨gb636, 0, none⟩) (by first | (rw [add_block]; exact hn637_0) | (show (Addr.add _ _).block ≠ _; rw [add_block]; exact hn637_0) | exact hn637_0) (.int .i64 ((rd_T135 l0_4 x5_1).f0))).trans hx637_0; replace hx637_1 := (cell_far (p := ⟨gb636, 0, none⟩) (by first | (rw [add_block]; exact hn637_0) | (show (Addr.add _ _).block ≠ _; rw [add_block]; exact hn637_0) | exact hn637_0) (.int .i64 ((rd_T135 l0_4 x5_1).f0))).trans hx637_1; replace hx637_2 := (cell_far (p := ⟨gb636, 0, none⟩) (by first | (rw [add_block]; exact hn637_0) | (show (Addr.add _ _).block ≠ _; rw [add_block]; exact hn637_0) | exact hn637_0) (.int .i64 ((rd_T135 l0_4 x5_1).f0))).trans hx637_2; replace hx637_3 := (cell_far (p := ⟨gb636, 0, none⟩) (by first | (rw [add_block]; exact hn637_0) | (show (Addr.add _ _).block ≠ _; rw [add_block]; exact hn637_0) | exact hn637_0) (.int .i64 ((rd_T135 l0_4 x5_1).f0))).trans hx637_3; replace hx637_0 := (cell_far (p := ⟨gb636, 1, none⟩) (by first | (rw [add_block]; exact hn637_1) | (show (Addr.add _ _).block ≠ _; rw [add_block]; exact hn637_1) | exact hn637_1) (.int .i64 ((rd_T135 l0_4 x5_1).f1))).trans hx637_0; replace hx637_1 := (cell_far (p := ⟨gb636, 1, none⟩) (by first | (rw [add_block]; exact hn637_1) | (show (Addr.add _ _).block ≠ _; rw [add_block]; exact hn637_1) | exact hn637_1) (.int .i64 ((rd_T135 l0_4 x5_1).f1))).trans hx637_1; replace hx637_2 := (cell_far (p := ⟨gb636, 1, none⟩) (by first | (rw [add_block]; exact hn637_1) | (show (Addr.add _ _).block ≠ _; rw [add_block]; exact hn637_1) | exact hn637_1) (.int .i64 ((rd_T135 l0_4 x5_1).f1))).trans hx637_2; replace hx637_3 := (cell_far (p := ⟨gb636, 1, none⟩) (by first | (rw [add_block]; exact hn637_1) | (show (Addr.add _ _).block ≠ _; rw [add_block]; exact hn637_1) | exact hn637_1) (.int .i64 ((rd_T135 l0_4 x5_1).f1))).trans hx637_3; replace hx637_0 := (cell_far (p := ⟨gb636, 2, none⟩) (by first | (rw [add_block]; exact hn637_2) | (show (Addr.add _ _).block ≠ _; rw [add_block]; exact hn637_2) | exact hn637_2) (.int .i64 ((rd_T135 l0_4 x5_1).f2))).trans hx637_0; replace hx637_1 := (cell_far (p := ⟨gb636, 2, none⟩) (by first | (rw [add_block]; exact hn637_2) | (show (Addr.add _ _).block ≠ _; rw [add_block]; exact hn637_2) | exact hn637_2) (.int .i64 ((rd_T135 l0_4 x5_1).f2))).trans hx637_1; replace hx637_2 := (cell_far (p := ⟨gb636, 2, none⟩) (by first | (rw [add_block]; exact hn637_2) | (show (Addr.add _ _).block ≠ _; rw [add_block]; exact hn637_2) | exact hn637_2) (.int .i64 ((rd_T135 l0_4 x5_1).f2))).trans hx637_2; replace hx637_3 := (cell_far (p := ⟨gb636, 2, none⟩) (by first | (rw [add_block]; exact hn637_2) | (show (Addr.add _ _).block ≠ _; rw [add_block]; exact hn637_2) | exact hn637_2) (.int .i64 ((rd_T135 l0_4 x5_1).f2))).trans hx637_3; (try have hy637_0 := fun (n_ : Nat) => (show (((((w17.drewN n_).setCell ⟨gb636, 0, none⟩ (.int .i64 ((rd_T135 l0_4 x5_1).f0))).setCell ⟨gb636, 1, none⟩ (.int .i64 ((rd_T135 l0_4 x5_1).f1))).setCell ⟨gb636, 2, none⟩ (.int .i64 ((rd_T135 l0_4 x5_1).f2)))).cell? _ = some _ from hx637_0)); (try have hy637_1 := fun (n_ : Nat) => (show (((((w17.drewN n_).setCell ⟨gb636, 0, none⟩ (.int .i64 ((rd_T135 l0_4 x5_1).f0))).setCell ⟨gb636, 1, none⟩ (.int .i64 ((rd_T135 l0_4 x5_1).f1))).setCell ⟨gb636, 2, none⟩ (.int .i64 ((rd_T135 l0_4 x5_1).f2)))).cell? _ = some _ from hx637_1)); (try have hy637_2 := fun (n_ : Nat) => (show (((((w17.drewN n_).setCell ⟨gb636, 0, none⟩ (.int .i64 ((rd_T135 l0_4 x5_1).f0))).setCell ⟨gb636, 1, none⟩ (.int .i64 ((rd_T135 l0_4 x5_1).f1))).setCell ⟨gb636, 2, none⟩ (.int .i64 ((rd_T135 l0_4 x5_1).f2)))).cell? _ = some _ from hx637_2)); (try have hy637_3 := fun (n_ : Nat) => (show (((((w17.drewN n_).setCell ⟨gb636, 0, none⟩ (.int .i64 ((rd_T135 l0_4 x5_1).f0))).setCell ⟨gb636, 1, none⟩ (.int .i64 ((rd_T135 l0_4 x5_1).f1))).setCell ⟨gb636, 2, none⟩ (.int .i64 ((rd_T135 l0_4 x5_1).f2)))).cell? _ = some _ from hx637_3)); clear hn637_0; clear hn637_1; clear hn637_2; replace p637 := eq_true p637; replace q637 := eq_true q637)))
          go_roundg k1
          case measure => have := HK1.out; omega
          case rel => exact ⟨(wrap64 (x5_1 + 1)), (by first | rfl | (simp; done) | (simp [*]; done)), H', ⟨by have := HK1.out; omega⟩, ⟨by (with_reducible repeat (first | refine blk_drewN ?_ _ | refine blk_drew ?_ | refine blk_alloc ?_ _)); refine blk_far ?_ NB634_636.out _; (with_reducible repeat (first | refine blk_drewN ?_ _ | refine blk_drew ?_ | refine blk_alloc ?_ _)); refine blk_far ?_ NB634_636.out _; (with_reducible repeat (first | refine blk_drewN ?_ _ | refine blk_drew ?_ | refine blk_alloc ?_ _)); refine blk_far ?_ NB634_636.out _; exact bs BK634.out⟩, ⟨by repeat (first | (with_reducible first | exact bw HB.out | refine bset ?_ (by assumption) | apply below_alloc | apply pw_below_drewN | apply below_drew1) | exact HB.out)⟩⟩
        ·rw [if_neg c9] at H
         exact absurd H (by simp)
       ·rw [if_neg c8] at H
        exact absurd H (by simp)
      ·rw [if_neg c7] at H
       have c7b0 : decide (((rd_T135 l0_4 x5_1).f2) ≤ a0_2) = false := decide_eq_false c7
       clear c7
       have H' := Aside0.mk H
       clear H
       have hcz21_0 := b5_0 BK634.out
       have hcz21_1 := b5_1 BK634.out
       have hcz21_2 := b5_2 BK634.out
       have hcz21_3 := b5_3 BK634.out
       have hcz21_4 := b5_4 BK634.out
       have hfz21_0 := blk_frozen BK634.out 0
       have hfz21_1 := blk_frozen BK634.out 1
       have hfz21_2 := blk_frozen BK634.out 2
       have hfz21_3 := blk_frozen BK634.out 3
       have hfz21_4 := blk_frozen BK634.out 4
       have p635 : 0 ≤ (x5_1 : Int) := of_decide_eq_true (by first | (with_reducible assumption) | assumption)
       have q635 : x5_1 < (l0_4.length : Int) := of_decide_eq_true (by first | (with_reducible assumption) | assumption)
       obtain ⟨ad635, e635, hx635_0, hx635_1, hx635_2⟩ := at_T135 HR0_4.out x5_1 p635 q635
       cases e635
       replace hx635_0 := (HB.out.cell (World.block_lt_of_cell? w _ hx635_0)).trans hx635_0
       replace hx635_1 := (HB.out.cell (World.block_lt_of_cell? w _ hx635_1)).trans hx635_1
       replace hx635_2 := (HB.out.cell (World.block_lt_of_cell? w _ hx635_2)).trans hx635_2
       replace p635 := eq_true p635
       replace q635 := eq_true q635
       have go_ := True.intro
       repeat ((first | go_quiet (first | ((with_reducible refine gate_dst (N := 6) rfl ?_); refine box_event ?hg (N := 6) ?hd (cs := #[.int .i64 0, .int .i64 0, .int .i64 0]) (t := 135) ?hr ?_; (case hd => rfl); (case hg => rfl); (case hr => first | (go_simp; done) | (go_simp; rfl)); intro gb636 hg w22 hbox hb; have n0_ := Aside0.mk (blk_below (bs BK634.out) hb); have n1_ := Aside0.mk (below_step (by repeat (first | (with_reducible first | exact bw HB.out | refine bset ?_ (by assumption) | apply below_alloc | apply pw_below_drewN | apply below_drew1) | exact HB.out)) hb); have n2_ := Aside0.mk (hbox); have n3_ := Aside0.mk ((by rw [hg]; exact (below_size (by repeat (first | (with_reducible first | exact bw HB.out | refine bset ?_ (by assumption) | apply below_alloc | apply pw_below_drewN | apply below_drew1) | exact HB.out))) : w.heap.size ≤ gb636)); have n4_ := Aside0.mk ((by rw [hg]; exact (below_size (by repeat (first | (with_reducible first | exact bw HB.out | refine bset ?_ (by assumption) | apply below_alloc | apply pw_below_drewN | apply below_drew1) | exact HB.out))) : w.heap.size ≤ gb636)); have n5_ := ne_ hg BK634.out; have n6_ := en_ hg BK634.out; clear BK634; clear HB; have BK634 := n0_; have HB := n1_; have BK636 := n2_; have GW636 := n3_; have GE636 := n4_; have NB634_636 := n5_; have NB636_634 := n6_; clear n0_ n1_ n2_ n3_ n4_ n5_ n6_; clear hb hbox hg; have hnb23 := NB636_634.out; have hnc23 := NB634_636.out; have hcz24_0 := b3_0 BK636.out; have hcz24_1 := b3_1 BK636.out; have hcz24_2 := b3_2 BK636.out; have hfz24_0 := blk_frozen BK636.out 0; have hfz24_1 := blk_frozen BK636.out 1; have hfz24_2 := blk_frozen BK636.out 2; have hcz25_0 := b5_0 BK634.out; have hcz25_1 := b5_1 BK634.out; have hcz25_2 := b5_2 BK634.out; have hcz25_3 := b5_3 BK634.out; have hcz25_4 := b5_4 BK634.out; have hfz25_0 := blk_frozen BK634.out 0; have hfz25_1 := blk_frozen BK634.out 1; have hfz25_2 := blk_frozen BK634.out 2; have hfz25_3 := blk_frozen BK634.out 3; have hfz25_4 := blk_frozen BK634.out 4)) | clear go_); go_wp2_with (first | ((with_reducible refine gate_dst (N := 6) rfl ?_); refine box_event ?hg (N := 6) ?hd (cs := #[.int .i64 0, .int .i64 0, .int .i64 0]) (t := 135) ?hr ?_; (case hd => rfl); (case hg => rfl); (case hr => first | (go_simp; done) | (go_simp; rfl)); intro gb636 hg w22 hbox hb; have n0_ := Aside0.mk (blk_below (bs BK634.out) hb); have n1_ := Aside0.mk (below_step (by repeat (first | (with_reducible first | exact bw HB.out | refine bset ?_ (by assumption) | apply below_alloc | apply pw_below_drewN | apply below_drew1) | exact HB.out)) hb); have n2_ := Aside0.mk (hbox); have n3_ := Aside0.mk ((by rw [hg]; exact (below_size (by repeat (first | (with_reducible first | exact bw HB.out | refine bset ?_ (by assumption) | apply below_alloc | apply pw_below_drewN | apply below_drew1) | exact HB.out))) : w.heap.size ≤ gb636)); have n4_ := Aside0.mk ((by rw [hg]; exact (below_size (by repeat (first | (with_reducible first | exact bw HB.out | refine bset ?_ (by assumption) | apply below_alloc | apply pw_below_drewN | apply below_drew1) | exact HB.out))) : w.heap.size ≤ gb636)); have n5_ := ne_ hg BK634.out; have n6_ := en_ hg BK634.out; clear BK634; clear HB; have BK634 := n0_; have HB := n1_; have BK636 := n2_; have GW636 := n3_; have GE636 := n4_; have NB634_636 := n5_; have NB636_634 := n6_; clear n0_ n1_ n2_ n3_ n4_ n5_ n6_; clear hb hbox hg; have hnb23 := NB636_634.out; have hnc23 := NB634_636.out; have hcz24_0 := b3_0 BK636.out; have hcz24_1 := b3_1 BK636.out; have hcz24_2 := b3_2 BK636.out; have hfz24_0 := blk_frozen BK636.out 0; have hfz24_1 := blk_frozen BK636.out 1; have hfz24_2 := blk_frozen BK636.out 2; have hcz25_0 := b5_0 BK634.out; have hcz25_1 := b5_1 BK634.out; have hcz25_2 := b5_2 BK634.out; have hcz25_3 := b5_3 BK634.out; have hcz25_4 := b5_4 BK634.out; have hfz25_0 := blk_frozen BK634.out 0; have hfz25_1 := blk_frozen BK634.out 1; have hfz25_2 := blk_frozen BK634.out 2; have hfz25_3 := blk_frozen BK634.out 3; have hfz25_4 := blk_frozen BK634.out 4)))
       go_roundg k1
       case measure => have := HK1.out; omega
       case rel => exact ⟨(wrap64 (x5_1 + 1)), (by first | rfl | (simp; done) | (simp [*]; done)), H', ⟨by have := HK1.out; omega⟩, ⟨by (with_reducible repeat (first | refine blk_drewN ?_ _ | refine blk_drew ?_ | refine blk_alloc ?_ _)); refine blk_far ?_ NB634_636.out _; (with_reducible repeat (first | refine blk_drewN ?_ _ | refine blk_drew ?_ | refine blk_alloc ?_ _)); refine blk_far ?_ NB634_636.out _; (with_reducible repeat (first | refine blk_drewN ?_ _ | refine blk_drew ?_ | refine blk_alloc ?_ _)); refine blk_far ?_ NB634_636.out _; exact bs BK634.out⟩, ⟨by repeat (first | (with_reducible first | exact bw HB.out | refine bset ?_ (by assumption) | apply below_alloc | apply pw_below_drewN | apply below_drew1) | exact HB.out)⟩⟩
     ·rw [if_neg c6] at H
      have c6b0 : (((rd_T135 l0_4 x5_1).f1) == a1) = false := beq_eq_false_iff_ne.mpr c6
      have c6b1 : (((rd_T135 l0_4 x5_1).f1) != a1) = true := bne_iff_ne.mpr c6
      have H' := Aside0.mk H
      clear H
      have hcz26_0 := b5_0 BK634.out
      have hcz26_1 := b5_1 BK634.out
      have hcz26_2 := b5_2 BK634.out
      have hcz26_3 := b5_3 BK634.out
      have hcz26_4 := b5_4 BK634.out
      have hfz26_0 := blk_frozen BK634.out 0
      have hfz26_1 := blk_frozen BK634.out 1
      have hfz26_2 := blk_frozen BK634.out 2
      have hfz26_3 := blk_frozen BK634.out 3
      have hfz26_4 := blk_frozen BK634.out 4
      have p635 : 0 ≤ (x5_1 : Int) := of_decide_eq_true (by first | (with_reducible assumption) | assumption)
      have q635 : x5_1 < (l0_4.length : Int) := of_decide_eq_true (by first | (with_reducible assumption) | assumption)
      obtain ⟨ad635, e635, hx635_0, hx635_1, hx635_2⟩ := at_T135 HR0_4.out x5_1 p635 q635
      cases e635
      replace hx635_0 := (HB.out.cell (World.block_lt_of_cell? w _ hx635_0)).trans hx635_0
      replace hx635_1 := (HB.out.cell (World.block_lt_of_cell? w _ hx635_1)).trans hx635_1
      replace hx635_2 := (HB.out.cell (World.block_lt_of_cell? w _ hx635_2)).trans hx635_2
      replace p635 := eq_true p635
      replace q635 := eq_true q635
      have go_ := True.intro
      repeat ((first | go_quiet (first | ((with_reducible refine gate_dst (N := 6) rfl ?_); refine box_event ?hg (N := 6) ?hd (cs := #[.int .i64 0, .int .i64 0, .int .i64 0]) (t := 135) ?hr ?_; (case hd => rfl); (case hg => rfl); (case hr => first | (go_simp; done) | (go_simp; rfl)); intro gb636 hg w27 hbox hb; have n0_ := Aside0.mk (blk_below (bs BK634.out) hb); have n1_ := Aside0.mk (below_step (by repeat (first | (with_reducible first | exact bw HB.out | refine bset ?_ (by assumption) | apply below_alloc | apply pw_below_drewN | apply below_drew1) | exact HB.out)) hb); have n2_ := Aside0.mk (hbox); have n3_ := Aside0.mk ((by rw [hg]; exact (below_size (by repeat (first | (with_reducible first | exact bw HB.out | refine bset ?_ (by assumption) | apply below_alloc | apply pw_below_drewN | apply below_drew1) | exact HB.out))) : w.heap.size ≤ gb636)); have n4_ := Aside0.mk ((by rw [hg]; exact (below_size (by repeat (first | (with_reducible first | exact bw HB.out | refine bset ?_ (by assumption) | apply below_alloc | apply pw_below_drewN | apply below_drew1) | exact HB.out))) : w.heap.size ≤ gb636)); have n5_ := ne_ hg BK634.out; have n6_ := en_ hg BK634.out; clear BK634; clear HB; have BK634 := n0_; have HB := n1_; have BK636 := n2_; have GW636 := n3_; have GE636 := n4_; have NB634_636 := n5_; have NB636_634 := n6_; clear n0_ n1_ n2_ n3_ n4_ n5_ n6_; clear hb hbox hg; have hnb28 := NB636_634.out; have hnc28 := NB634_636.out; have hcz29_0 := b3_0 BK636.out; have hcz29_1 := b3_1 BK636.out; have hcz29_2 := b3_2 BK636.out; have hfz29_0 := blk_frozen BK636.out 0; have hfz29_1 := blk_frozen BK636.out 1; have hfz29_2 := blk_frozen BK636.out 2)) | clear go_); go_wp2_with (first | ((with_reducible refine gate_dst (N := 6) rfl ?_); refine box_event ?hg (N := 6) ?hd (cs := #[.int .i64 0, .int .i64 0, .int .i64 0]) (t := 135) ?hr ?_; (case hd => rfl); (case hg => rfl); (case hr => first | (go_simp; done) | (go_simp; rfl)); intro gb636 hg w27 hbox hb; have n0_ := Aside0.mk (blk_below (bs BK634.out) hb); have n1_ := Aside0.mk (below_step (by repeat (first | (with_reducible first | exact bw HB.out | refine bset ?_ (by assumption) | apply below_alloc | apply pw_below_drewN | apply below_drew1) | exact HB.out)) hb); have n2_ := Aside0.mk (hbox); have n3_ := Aside0.mk ((by rw [hg]; exact (below_size (by repeat (first | (with_reducible first | exact bw HB.out | refine bset ?_ (by assumption) | apply below_alloc | apply pw_below_drewN | apply below_drew1) | exact HB.out))) : w.heap.size ≤ gb636)); have n4_ := Aside0.mk ((by rw [hg]; exact (below_size (by repeat (first | (with_reducible first | exact bw HB.out | refine bset ?_ (by assumption) | apply below_alloc | apply pw_below_drewN | apply below_drew1) | exact HB.out))) : w.heap.size ≤ gb636)); have n5_ := ne_ hg BK634.out; have n6_ := en_ hg BK634.out; clear BK634; clear HB; have BK634 := n0_; have HB := n1_; have BK636 := n2_; have GW636 := n3_; have GE636 := n4_; have NB634_636 := n5_; have NB636_634 := n6_; clear n0_ n1_ n2_ n3_ n4_ n5_ n6_; clear hb hbox hg; have hnb28 := NB636_634.out; have hnc28 := NB634_636.out; have hcz29_0 := b3_0 BK636.out; have hcz29_1 := b3_1 BK636.out; have hcz29_2 := b3_2 BK636.out; have hfz29_0 := blk_frozen BK636.out 0; have hfz29_1 := blk_frozen BK636.out 1; have hfz29_2 := blk_frozen BK636.out 2)))
      go_roundg k1
      case measure => have := HK1.out; omega
      case rel => exact ⟨(wrap64 (x5_1 + 1)), (by first | rfl | (simp; done) | (simp [*]; done)), H', ⟨by have := HK1.out; omega⟩, ⟨by (with_reducible repeat (first | refine blk_drewN ?_ _ | refine blk_drew ?_ | refine blk_alloc ?_ _)); refine blk_far ?_ NB634_636.out _; (with_reducible repeat (first | refine blk_drewN ?_ _ | refine blk_drew ?_ | refine blk_alloc ?_ _)); refine blk_far ?_ NB634_636.out _; (with_reducible repeat (first | refine blk_drewN ?_ _ | refine blk_drew ?_ | refine blk_alloc ?_ _)); refine blk_far ?_ NB634_636.out _; exact bs BK634.out⟩, ⟨by repeat (first | (with_reducible first | exact bw HB.out | refine bset ?_ (by assumption) | apply below_alloc | apply pw_below_drewN | apply below_drew1) | exact HB.out)⟩⟩
    ·rw [if_neg c5] at H
     exact absurd H (by simp)
   ·rw [if_neg c4] at H
    have c4b0 : decide (x5_1 < (l0_4.length : Int)) = false := decide_eq_false c4
    clear c4
    obtain rfl := Option.some.inj H
    have hcz30_0 := b5_0 BK634.out
    have hcz30_1 := b5_1 BK634.out
    have hcz30_2 := b5_2 BK634.out
    have hcz30_3 := b5_3 BK634.out
    have hcz30_4 := b5_4 BK634.out
    have hfz30_0 := blk_frozen BK634.out 0
    have hfz30_1 := blk_frozen BK634.out 1
    have hfz30_2 := blk_frozen BK634.out 2
    have hfz30_3 := blk_frozen BK634.out 3
    have hfz30_4 := blk_frozen BK634.out 4
    go_wp2
    repeat (go_quiet (fail); try go_wp2)
    go_ret
    exact ⟨by first | rfl | (simp [errW_none, errW_some] <;> rfl) | (simp [*, errW_none, errW_some] <;> rfl), by repeat (first | (with_reducible first | exact bw HB.out | refine bset ?_ (by assumption) | apply below_alloc | apply pw_below_drewN | apply below_drew1) | exact HB.out)⟩

/-! ### spec_RunningJobs: function 44 -/
def spec_RunningJobs.l0 : Nat → List Int → Int → Int → Int → Int → List (S137) → List (S135) → Option (List Int × Bool)
 | 0, _, _, _, _, _, _, _ => none
 | k + 1, x4, x5, x639000, x639001, x639002, x639003, x639004 => if x5 < x639000 then ((spec_l12Running.f k x639000 x639001 x639002 x639003 x639004 x5).bind fun t643 => (if x4.length < 17592186044416 then (spec_RunningJobs.l0 k (x4 ++ [t643]) (wrap64 (x5 + 1)) x639000 x639001 x639002 x639003 x639004) else (none))) else (some (x4, true))
def spec_RunningJobs.f (k : Nat) (a0_0 : Int) (a0_1 : Int) (a0_2 : Int) (l0_3 : List (S137)) (l0_4 : List (S135)) : Option (List Int × Bool) := (some (([] : List Int) : List Int)).bind fun y639 => ((spec_l12Good.f k a0_0 a0_1 a0_2 l0_3 l0_4).bind fun t642 => (if t642 = true then (spec_RunningJobs.l0 k y639 0 a0_0 a0_1 a0_2 l0_3 l0_4) else (some (y639, false))))
theorem spec_RunningJobs.mono_l : ∀ k, (∀ y0 y1 y2 y3 y4 y5 y6, LeO (spec_RunningJobs.l0 k y0 y1 y2 y3 y4 y5 y6) (spec_RunningJobs.l0 (k + 1) y0 y1 y2 y3 y4 y5 y6))
 | 0 => fun _ _ _ _ _ _ _ r h => by simp [spec_RunningJobs.l0] at h
 | k + 1 => by
  have ih0 := spec_RunningJobs.mono_l k
  ·intro y0 y1 y2 y3 y4 y5 y6
   unfold spec_RunningJobs.l0
   repeat' first
   | (with_reducible exact ih0 _ _ _ _ _ _ _)
   | (with_reducible exact spec_l12Good.mono _ _ _ _ _ _)
   | (with_reducible exact spec_l12Running.mono _ _ _ _ _ _ _)
   | (with_reducible exact LeO.refl _)
   | (with_reducible exact LeO.none _)
   | (with_reducible refine LeO.ite ?_ ?_)
   | (with_reducible refine LeO.bind ?_ (fun _ => ?_))
   | exact ih0 _ _ _ _ _ _ _
   | exact spec_l12Good.mono _ _ _ _ _ _
   | exact spec_l12Running.mono _ _ _ _ _ _ _
   | exact LeO.none _
   | refine LeO.ite ?_ ?_
   | refine LeO.bind ?_ (fun _ => ?_)
theorem spec_RunningJobs.mono : ∀ a0 a1 a2 a3 a4 k, LeO (spec_RunningJobs.f k a0 a1 a2 a3 a4) (spec_RunningJobs.f (k + 1) a0 a1 a2 a3 a4) := by
 intro a0 a1 a2 a3 a4 k
 have ih0 := spec_RunningJobs.mono_l k
 unfold spec_RunningJobs.f
 repeat' first
   | (with_reducible exact ih0 _ _ _ _ _ _ _)
   | (with_reducible exact spec_l12Good.mono _ _ _ _ _ _)
   | (with_reducible exact spec_l12Running.mono _ _ _ _ _ _ _)
   | (with_reducible exact LeO.refl _)
   | (with_reducible exact LeO.none _)
   | (with_reducible refine LeO.ite ?_ ?_)
   | (with_reducible refine LeO.bind ?_ (fun _ => ?_))
   | exact ih0 _ _ _ _ _ _ _
   | exact spec_l12Good.mono _ _ _ _ _ _
   | exact spec_l12Running.mono _ _ _ _ _ _ _
   | exact LeO.none _
   | refine LeO.ite ?_ ?_
   | refine LeO.bind ?_ (fun _ => ?_)
set_option maxHeartbeats 8000000 in
set_option maxRecDepth 100000 in
theorem spec_RunningJobs.calls (k : Nat) (a0_0 : Int) (a0_1 : Int) (a0_2 : Int) (A0_3 : Option Addr) (c0_3 : Nat) (l0_3 : List (S137)) (A0_4 : Option Addr) (c0_4 : Nat) (l0_4 : List (S135)) (r1 : List Int) (r2 : Bool) (w : World) (hr0_3 : Kd.C k137 w A0_3 l0_3.length l0_3) (hc0_3 : l0_3.length ≤ c0_3) (hr0_4 : Kd.C k135 w A0_4 l0_4.length l0_4) (hc0_4 : l0_4.length ≤ c0_4) (h : spec_RunningJobs.f k a0_0 a0_1 a0_2 l0_3 l0_4 = some (r1, r2)) :
  Calls Try.prog 44 #[.agg #[.int .i64 a0_0, .int .i64 a0_1, .int .i64 a0_2, .slice A0_3 l0_3.length c0_3, .slice A0_4 l0_4.length c0_4]] w fun e w' => ∃ v0_ : Value, e = .returned (.tuple #[v0_, .bool r2]) ∧ Kd.R (Kd.int .i64) 3 w' w.heap.size (fun _ => True) v0_ r1 ∧ Below w.heap.size w w' := by
 have hu25 := Try.underlying25
 have HR0_3 := Aside0.mk hr0_3
 have HC0_3 := Aside0.mk hc0_3
 clear hr0_3 hc0_3
 have HR0_4 := Aside0.mk hr0_4
 have HC0_4 := Aside0.mk hc0_4
 clear hr0_4 hc0_4
 have HB := Aside0.mk (Below.refl w.heap.size w)
 have H : ((some (([] : List Int) : List Int)).bind fun y639 => ((spec_l12Good.f k a0_0 a0_1 a0_2 l0_3 l0_4).bind fun t642 => (if t642 = true then (spec_RunningJobs.l0 k y639 0 a0_0 a0_1 a0_2 l0_3 l0_4) else (some (y639, false))))) = some (r1, r2) := h
 clear h
 obtain ⟨y639, hy639⟩ : ∃ y_ : List Int, y_ = (([] : List Int)) := ⟨_, rfl⟩
 replace H : ((spec_l12Good.f k a0_0 a0_1 a0_2 l0_3 l0_4).bind fun t642 => (if t642 = true then (spec_RunningJobs.l0 k y639 0 a0_0 a0_1 a0_2 l0_3 l0_4) else (some (y639, false)))) = some (r1, r2) := by first | (rw [hy639]; with_reducible exact H) | (have H2_ := (Option.bind_some _ _).symm.trans H; rw [hy639]; with_reducible exact H2_) | (have H2_ := (Option.bind_some _ _).symm.trans H; with_reducible exact H2_) | with_reducible exact H | (rw [hy639]; exact H) | exact H
 have Ny639 := Aside0.mk hy639
 clear hy639
 replace H := Option.bind_eq_some_iff.mp H
 obtain ⟨t642, A20, H⟩ := H
 replace H : (if t642 = true then (spec_RunningJobs.l0 k y639 0 a0_0 a0_1 a0_2 l0_3 l0_4) else (some (y639, false))) = some (r1, r2) := H
 have A2 := Aside0.mk A20
 clear A20
 by_cases c3 : t642 = true
 ·subst c3
  have H1 : (spec_RunningJobs.l0 k y639 0 a0_0 a0_1 a0_2 l0_3 l0_4) = some (r1, r2) := by rw [if_pos rfl] at H; exact H
  clear H
  have H := H1
  clear H1
  have H' := Aside0.mk H
  clear H
  go_enter Try.func44, Try.ntmps44
  go_wp2_with (first | ((with_reducible refine gate_dst (N := 1) rfl ?_); refine box_event ?hg (N := 1) ?hd (cs := #[.int .i64 a0_0, .int .i64 a0_1, .int .i64 a0_2, .slice A0_3 l0_3.length c0_3, .slice A0_4 l0_4.length c0_4]) (t := 25) ?hr ?_; (case hd => rfl); (case hg => rfl); (case hr => first | (go_simp; done) | (go_simp; rfl)); intro gb638 hg w4 hbox hb; have n0_ := Aside0.mk (below_step (bw HB.out) hb); have n1_ := Aside0.mk (hbox); have n2_ := ge_ hg HB.out; have n3_ := ge_ hg HB.out; clear HB; have HB := n0_; have BK638 := n1_; have GW638 := n2_; have GE638 := n3_; clear n0_ n1_ n2_ n3_; clear hb hbox hg) | ((with_reducible refine gate_dst (N := 6) rfl ?_); refine Kd.R_lit (Kd.int .i64) _ 3 ?hg (N := 6) ?hd (xs := ([] : List Int)) (inner := []) (ok := fun _ => True) (okp := fun _ => True) ?hr ?hp (fun _ hk => hk) trivial (Below.refl _ _) (Nat.le_refl _) (by simp) ?_; (case hd => rfl); (case hg => rfl); (case hr => first | (go_simp; done) | (go_simp; rfl)); (case hp => exact (Reps.none _ _)); intro v640 w5 ho6 hb hg_ hnew_; clear hg_ hnew_; (first | rw [← Ny639.out] at ho6 | (simp only [Int.reduceToNat] at ho6; rw [← Ny639.out] at ho6)); have n0_ := Aside0.mk (Kd.R_lower ho6 (below_size (by repeat (first | (with_reducible first | exact bw HB.out | refine bset ?_ (by assumption) | apply below_alloc | apply pw_below_drewN | apply below_drew1) | exact HB.out)))); have n1_ := Aside0.mk (blk_below (bs BK638.out) hb); have n2_ := Aside0.mk (below_step (by repeat (first | (with_reducible first | exact bw HB.out | refine bset ?_ (by assumption) | apply below_alloc | apply pw_below_drewN | apply below_drew1) | exact HB.out)) hb); clear BK638; clear HB; have HO641 := n0_; have BK638 := n1_; have HB := n2_; clear n0_ n1_ n2_; clear hb ho6; have hcz7_0 := b5_0 BK638.out; have hcz7_1 := b5_1 BK638.out; have hcz7_2 := b5_2 BK638.out; have hcz7_3 := b5_3 BK638.out; have hcz7_4 := b5_4 BK638.out; have hfz7_0 := blk_frozen BK638.out 0; have hfz7_1 := blk_frozen BK638.out 1; have hfz7_2 := blk_frozen BK638.out 2; have hfz7_3 := blk_frozen BK638.out 3; have hfz7_4 := blk_frozen BK638.out 4) | ((with_reducible refine gate_callee (f := 76) rfl ?_); refine goesL_ (some 8) rfl rfl Try.func76 (by kernel_rfl) rfl #[.agg #[.int .i64 a0_0, .int .i64 a0_1, .int .i64 a0_2, .slice A0_3 l0_3.length c0_3, .slice A0_4 l0_4.length c0_4]] rfl (by (try simp only [mA_]); first | done | rfl | (simp only [List.length_drop, List.length_take]; rfl)) ?_; (with_reducible refine (spec_l12Good.calls k a0_0 a0_1 a0_2 _ _ l0_3 _ _ l0_4 true _ ?side1 ?side2 ?side3 ?side4 A2.out).mono ?_); (case side1 => first | exact bC HR0_3.out HB.out | exact Kd.C_below HR0_3.out HB.out); (case side2 => exact HC0_3.out); (case side3 => first | exact bC HR0_4.out HB.out | exact Kd.C_below HR0_4.out HB.out); (case side4 => exact HC0_4.out); rintro e w8 ⟨rfl, hb⟩; refine ⟨_, rfl, ?_⟩; have n0_ := Aside0.mk (Kd.R_below (bR HO641.out) hb); have n1_ := Aside0.mk (blk_below (bs BK638.out) hb); have n2_ := Aside0.mk (below_step (by repeat (first | (with_reducible first | exact bw HB.out | refine bset ?_ (by assumption) | apply below_alloc | apply pw_below_drewN | apply below_drew1) | exact HB.out)) hb); clear HO641; clear BK638; clear HB; have HO641 := n0_; have BK638 := n1_; have HB := n2_; clear n0_ n1_ n2_; (try clear hb); (try clear hb2); (try clear hk); (try clear hi)))
  go_loopg [4, 5] k (fun kq v4 v5 w' => ∃ (x4_1 : List Int) (x5_1 : Int), v5 = .int .i64 x5_1 ∧ Aside0 (spec_RunningJobs.l0 kq x4_1 x5_1 a0_0 a0_1 a0_2 l0_3 l0_4 = some (r1, r2)) ∧ Aside0 (kq ≤ k) ∧ Aside0 (Kd.R (Kd.int .i64) 3 w' w.heap.size (fun _ => True) v4 x4_1) ∧ Aside0 (w'.heap[gb638]? = some (.cells #[.int .i64 a0_0, .int .i64 a0_1, .int .i64 a0_2, (.slice A0_3 l0_3.length c0_3), (.slice A0_4 l0_4.length c0_4)] 25 (0, 0))) ∧ Aside0 (Below w.heap.size w w'))
  case atStart => exact ⟨(y639), (0), (by first | rfl | (simp; done) | (simp [*]; done)), H', ⟨Nat.le_refl _⟩, ⟨bR HO641.out⟩, ⟨bs BK638.out⟩, ⟨by repeat (first | (with_reducible first | exact bw HB.out | refine bset ?_ (by assumption) | apply below_alloc | apply pw_below_drewN | apply below_drew1) | exact HB.out)⟩⟩
  case round =>
   clear H'
   try clear p2
   try clear c3
   try clear c4
   try clear c7
   try clear hcz7_0
   try clear hcz7_1
   try clear hcz7_2
   try clear hcz7_3
   try clear hcz7_4
   try clear hfz7_0
   try clear hfz7_1
   try clear hfz7_2
   try clear hfz7_3
   try clear hfz7_4
   obtain ⟨x4_1, x5_1, rfl, HA, HK1, HO_4, BK638, HB⟩ := hrel
   cases gk with
   | zero => exact absurd HA.out (by simp [spec_RunningJobs.l0])
   | succ k1 =>
    have H := HA.out
    clear HA
    simp only [spec_RunningJobs.l0] at H
    by_cases c9 : x5_1 < a0_0
    ·rw [if_pos c9] at H
     have c9b0 : decide (x5_1 < a0_0) = true := decide_eq_true c9
     clear c9
     replace H := Option.bind_eq_some_iff.mp H
     obtain ⟨t643, A100, H⟩ := H
     replace H : (if x4_1.length < 17592186044416 then (spec_RunningJobs.l0 k1 (x4_1 ++ [t643]) (wrap64 (x5_1 + 1)) a0_0 a0_1 a0_2 l0_3 l0_4) else (none)) = some (r1, r2) := H
     have A10 := Aside0.mk A100
     clear A100
     by_cases c11 : x4_1.length < 17592186044416
     ·rw [if_pos c11] at H
      have LMc11 := Aside0.mk c11
      clear c11
      obtain ⟨y644, hy644⟩ : ∃ y_ : List Int, y_ = (x4_1 ++ [t643]) := ⟨_, rfl⟩
      replace H : (spec_RunningJobs.l0 k1 y644 (wrap64 (x5_1 + 1)) a0_0 a0_1 a0_2 l0_3 l0_4) = some (r1, r2) := by first | (rw [hy644]; with_reducible exact H) | (have H2_ := (Option.bind_some _ _).symm.trans H; rw [hy644]; with_reducible exact H2_) | (have H2_ := (Option.bind_some _ _).symm.trans H; with_reducible exact H2_) | with_reducible exact H | (rw [hy644]; exact H) | exact H
      have Ny644 := Aside0.mk hy644
      clear hy644
      have H' := Aside0.mk H
      clear H
      have hcz12_0 := b5_0 BK638.out
      have hcz12_1 := b5_1 BK638.out
      have hcz12_2 := b5_2 BK638.out
      have hcz12_3 := b5_3 BK638.out
      have hcz12_4 := b5_4 BK638.out
      have hfz12_0 := blk_frozen BK638.out 0
      have hfz12_1 := blk_frozen BK638.out 1
      have hfz12_2 := blk_frozen BK638.out 2
      have hfz12_3 := blk_frozen BK638.out 3
      have hfz12_4 := blk_frozen BK638.out 4
      go_wp2_with (first | ((with_reducible refine gate_callee (f := 99) rfl ?_); refine goesL_ (some 20) rfl rfl Try.func99 (by kernel_rfl) rfl #[.agg #[.int .i64 a0_0, .int .i64 a0_1, .int .i64 a0_2, .slice A0_3 l0_3.length c0_3, .slice A0_4 l0_4.length c0_4], .int .i64 x5_1] rfl (by (try simp only [mA_]); first | done | rfl | (simp only [List.length_drop, List.length_take]; rfl)) ?_; (with_reducible refine (spec_l12Running.calls k1 a0_0 a0_1 a0_2 _ _ l0_3 _ _ l0_4 x5_1 t643 _ ?side1 ?side2 ?side3 ?side4 A10.out).mono ?_); (case side1 => first | exact bC HR0_3.out HB.out | exact Kd.C_below HR0_3.out HB.out); (case side2 => exact HC0_3.out); (case side3 => first | exact bC HR0_4.out HB.out | exact Kd.C_below HR0_4.out HB.out); (case side4 => exact HC0_4.out); rintro e w13 ⟨rfl, hb⟩; refine ⟨_, rfl, ?_⟩; have n0_ := Aside0.mk (Kd.R_below (bR HO_4.out) hb); have n1_ := Aside0.mk (blk_below (bs BK638.out) hb); have n2_ := Aside0.mk (below_step (by repeat (first | (with_reducible first | exact bw HB.out | refine bset ?_ (by assumption) | apply below_alloc | apply pw_below_drewN | apply below_drew1) | exact HB.out)) hb); clear HO_4; clear BK638; clear HB; have HO_4 := n0_; have BK638 := n1_; have HB := n2_; clear n0_ n1_ n2_; (try clear hb); (try clear hb2); (try clear hk); (try clear hi)) | ((with_reducible refine gate_builtin (b := .append) (xs := #[.tmp 17, .tmp 21]) rfl ?_); at_builtin; refine Kd.R_append (Kd.int .i64) (w0 := w) w.heap.size rfl (.tmp 17) (.tmp 21) 61 3 (.int .i64 0) 8 rfl Try.underlying61 info3 rfl (by decide) (by omega) u4 x4_1 t643 [.int .i64 t643] (fun _ => True) (fun _ => False) rfl rfl ?aP (fun _ hk => hk.elim) ?aF ?aO ?aB ?aS ?aL ?_; (case aP => exact rfl); (case aB => exact (by repeat (first | (with_reducible first | exact bw HB.out | refine bset ?_ (by assumption) | apply below_alloc | apply pw_below_drewN | apply below_drew1) | exact HB.out))); (case aF => exact (fun _ _ => trivial)); (case aO => exact (bR HO_4.out)); (case aS => exact (below_size (by repeat (first | (with_reducible first | exact bw HB.out | refine bset ?_ (by assumption) | apply below_alloc | apply pw_below_drewN | apply below_drew1) | exact HB.out)))); (case aL => have := LMc11.out; omega); intro v645 w14 ho hb hg hat; rw [← Ny644.out] at ho; have n0_ := Aside0.mk (blk_grown (bs BK638.out) hg (Kd.R_ne HO_4.out BK638.out (by decide))); have n1_ := Aside0.mk (hb); have n2_ := Aside0.mk (ho); clear BK638; clear HB; clear HO_4; have BK638 := n0_; have HB := n1_; have HO646 := n2_; clear n0_ n1_ n2_; clear ho hb hg hat))
      go_roundg k1
      case measure => have := HK1.out; omega
      case rel => exact ⟨(y644), (wrap64 (x5_1 + 1)), (by first | rfl | (simp; done) | (simp [*]; done)), H', ⟨by have := HK1.out; omega⟩, ⟨bR HO646.out⟩, ⟨bs BK638.out⟩, ⟨by repeat (first | (with_reducible first | exact bw HB.out | refine bset ?_ (by assumption) | apply below_alloc | apply pw_below_drewN | apply below_drew1) | exact HB.out)⟩⟩
     ·rw [if_neg c11] at H
      exact absurd H (by simp)
    ·rw [if_neg c9] at H
     have c9b0 : decide (x5_1 < a0_0) = false := decide_eq_false c9
     clear c9
     simp only [Option.some.injEq, Prod.mk.injEq] at H
     obtain ⟨rfl, rfl⟩ := H
     have hcz15_0 := b5_0 BK638.out
     have hcz15_1 := b5_1 BK638.out
     have hcz15_2 := b5_2 BK638.out
     have hcz15_3 := b5_3 BK638.out
     have hcz15_4 := b5_4 BK638.out
     have hfz15_0 := blk_frozen BK638.out 0
     have hfz15_1 := blk_frozen BK638.out 1
     have hfz15_2 := blk_frozen BK638.out 2
     have hfz15_3 := blk_frozen BK638.out 3
     have hfz15_4 := blk_frozen BK638.out 4
     go_wp2
     go_ret2
     exact ⟨_, by first | rfl | (simp [errW_none, errW_some] <;> rfl) | (simp [*, errW_none, errW_some] <;> rfl), by (with_reducible repeat (first | apply Kd.R_alloc | apply Kd.R_drewN | apply Kd.R_drew)); exact HO_4.out, by repeat (first | (with_reducible first | exact bw HB.out | refine bset ?_ (by assumption) | apply below_alloc | apply pw_below_drewN | apply below_drew1) | exact HB.out)⟩
 ·replace c3 := Bool.eq_false_iff.mpr c3
  subst c3
  have H1 : (some (y639, false)) = some (r1, r2) := by rw [if_neg (show ¬ (false = true) by decide)] at H; exact H
  clear H
  have H := H1
  clear H1
  simp only [Option.some.injEq, Prod.mk.injEq] at H
  obtain ⟨rfl, rfl⟩ := H
  go_enter Try.func44, Try.ntmps44
  go_wp2_with (first | ((with_reducible refine gate_dst (N := 1) rfl ?_); refine box_event ?hg (N := 1) ?hd (cs := #[.int .i64 a0_0, .int .i64 a0_1, .int .i64 a0_2, .slice A0_3 l0_3.length c0_3, .slice A0_4 l0_4.length c0_4]) (t := 25) ?hr ?_; (case hd => rfl); (case hg => rfl); (case hr => first | (go_simp; done) | (go_simp; rfl)); intro gb638 hg w16 hbox hb; have n0_ := Aside0.mk (below_step (bw HB.out) hb); have n1_ := Aside0.mk (hbox); have n2_ := ge_ hg HB.out; have n3_ := ge_ hg HB.out; clear HB; have HB := n0_; have BK638 := n1_; have GW638 := n2_; have GE638 := n3_; clear n0_ n1_ n2_ n3_; clear hb hbox hg) | ((with_reducible refine gate_dst (N := 6) rfl ?_); refine Kd.R_lit (Kd.int .i64) _ 3 ?hg (N := 6) ?hd (xs := ([] : List Int)) (inner := []) (ok := fun _ => True) (okp := fun _ => True) ?hr ?hp (fun _ hk => hk) trivial (Below.refl _ _) (Nat.le_refl _) (by simp) ?_; (case hd => rfl); (case hg => rfl); (case hr => first | (go_simp; done) | (go_simp; rfl)); (case hp => exact (Reps.none _ _)); intro v640 w17 ho18 hb hg_ hnew_; clear hg_ hnew_; (first | rw [← Ny639.out] at ho18 | (simp only [Int.reduceToNat] at ho18; rw [← Ny639.out] at ho18)); have n0_ := Aside0.mk (Kd.R_lower ho18 (below_size (by repeat (first | (with_reducible first | exact bw HB.out | refine bset ?_ (by assumption) | apply below_alloc | apply pw_below_drewN | apply below_drew1) | exact HB.out)))); have n1_ := Aside0.mk (blk_below (bs BK638.out) hb); have n2_ := Aside0.mk (below_step (by repeat (first | (with_reducible first | exact bw HB.out | refine bset ?_ (by assumption) | apply below_alloc | apply pw_below_drewN | apply below_drew1) | exact HB.out)) hb); clear BK638; clear HB; have HO641 := n0_; have BK638 := n1_; have HB := n2_; clear n0_ n1_ n2_; clear hb ho18; have hcz19_0 := b5_0 BK638.out; have hcz19_1 := b5_1 BK638.out; have hcz19_2 := b5_2 BK638.out; have hcz19_3 := b5_3 BK638.out; have hcz19_4 := b5_4 BK638.out; have hfz19_0 := blk_frozen BK638.out 0; have hfz19_1 := blk_frozen BK638.out 1; have hfz19_2 := blk_frozen BK638.out 2; have hfz19_3 := blk_frozen BK638.out 3; have hfz19_4 := blk_frozen BK638.out 4) | ((with_reducible refine gate_callee (f := 76) rfl ?_); refine goesL_ (some 8) rfl rfl Try.func76 (by kernel_rfl) rfl #[.agg #[.int .i64 a0_0, .int .i64 a0_1, .int .i64 a0_2, .slice A0_3 l0_3.length c0_3, .slice A0_4 l0_4.length c0_4]] rfl (by (try simp only [mA_]); first | done | rfl | (simp only [List.length_drop, List.length_take]; rfl)) ?_; (with_reducible refine (spec_l12Good.calls k a0_0 a0_1 a0_2 _ _ l0_3 _ _ l0_4 false _ ?side1 ?side2 ?side3 ?side4 A2.out).mono ?_); (case side1 => first | exact bC HR0_3.out HB.out | exact Kd.C_below HR0_3.out HB.out); (case side2 => exact HC0_3.out); (case side3 => first | exact bC HR0_4.out HB.out | exact Kd.C_below HR0_4.out HB.out); (case side4 => exact HC0_4.out); rintro e w20 ⟨rfl, hb⟩; refine ⟨_, rfl, ?_⟩; have n0_ := Aside0.mk (Kd.R_below (bR HO641.out) hb); have n1_ := Aside0.mk (blk_below (bs BK638.out) hb); have n2_ := Aside0.mk (below_step (by repeat (first | (with_reducible first | exact bw HB.out | refine bset ?_ (by assumption) | apply below_alloc | apply pw_below_drewN | apply below_drew1) | exact HB.out)) hb); clear HO641; clear BK638; clear HB; have HO641 := n0_; have BK638 := n1_; have HB := n2_; clear n0_ n1_ n2_; (try clear hb); (try clear hb2); (try clear hk); (try clear hi)))
  go_ret2
  exact ⟨_, by first | rfl | (simp [errW_none, errW_some] <;> rfl) | (simp [*, errW_none, errW_some] <;> rfl), by (with_reducible repeat (first | apply Kd.R_alloc | apply Kd.R_drewN | apply Kd.R_drew)); exact HO641.out, by repeat (first | (with_reducible first | exact bw HB.out | refine bset ?_ (by assumption) | apply below_alloc | apply pw_below_drewN | apply below_drew1) | exact HB.out)⟩

/-! ### impl_Dispatcher_running: function 100 -/
abbrev q100_0 : Array Bool := #[false, false, false, false, false, false, false, false, false, false, false, false, false, false, false, false, false, false, false]
abbrev q100_3 : Array Bool := #[true, true, true, false, false, false, false, false, false, false, false, false, false, false, false, false, false, false, false]
abbrev q100_8 : Array Bool := #[true, true, true, true, true, true, true, true, false, false, false, false, false, false, false, false, false, false, false]
abbrev q100_9 : Array Bool := #[true, true, true, true, true, true, true, true, true, false, false, false, false, false, false, false, false, false, false]
abbrev q100_14 : Array Bool := #[true, true, true, true, true, true, true, true, true, true, true, true, true, false, false, true, false, false, false]
abbrev q100_15 : Array Bool := #[true, true, true, true, true, true, true, true, true, true, true, true, true, true, false, true, false, false, false]
abbrev q100_16 : Array Bool := #[true, true, true, true, true, true, true, true, true, true, true, true, true, true, false, true, true, false, false]
abbrev q100_17 : Array Bool := #[true, true, true, true, true, true, true, true, true, true, true, true, true, true, true, true, true, false, false]
mutual
def impl_Dispatcher_running.l0 : Nat → List Int → Int → Int → Int → Int → List (S137) → List (S135) → Option (List Int)
 | 0, _, _, _, _, _, _, _ => none
 | k + 1, x3, x4, x648000, x648001, x648002, x648003, x648004 => if x4 < x648000 then (impl_Dispatcher_running.l1 k x3 x4 (-1) x648004 (x648004.length : Int) 0 x648000 x648001 x648002 x648003 x648004) else (some x3)
def impl_Dispatcher_running.l1 : Nat → List Int → Int → Int → List (S135) → Int → Int → Int → Int → Int → List (S137) → List (S135) → Option (List Int)
 | 0, _, _, _, _, _, _, _, _, _, _, _ => none
 | k + 1, x3, x4, x5, x15, x16, x17, x648000, x648001, x648002, x648003, x648004 => if x17 < x16 then (if 0 ≤ x17 then (if x17 < (x15.length : Int) then (if ((rd_T135 x15 x17).f1) = x4 then (if ((rd_T135 x15 x17).f2) ≤ x648002 then ((impl_Dispatcher_endOf.f x648000 x648001 x648002 x648003 x648004 ((rd_T135 x15 x17).f0) ((rd_T135 x15 x17).f1) ((rd_T135 x15 x17).f2)).bind fun t650 => (if t650 > x648002 then (impl_Dispatcher_running.l1 k x3 x4 ((rd_T135 x15 x17).f0) x15 x16 (wrap64 (x17 + 1)) x648000 x648001 x648002 x648003 x648004) else (impl_Dispatcher_running.l1 k x3 x4 x5 x15 x16 (wrap64 (x17 + 1)) x648000 x648001 x648002 x648003 x648004))) else (impl_Dispatcher_running.l1 k x3 x4 x5 x15 x16 (wrap64 (x17 + 1)) x648000 x648001 x648002 x648003 x648004)) else (impl_Dispatcher_running.l1 k x3 x4 x5 x15 x16 (wrap64 (x17 + 1)) x648000 x648001 x648002 x648003 x648004)) else (none)) else (none)) else (if x3.length < 17592186044416 then (impl_Dispatcher_running.l0 k (x3 ++ [x5]) (wrap64 (x4 + 1)) x648000 x648001 x648002 x648003 x648004) else (none))
end
def impl_Dispatcher_running.f (k : Nat) (a0_0 : Int) (a0_1 : Int) (a0_2 : Int) (l0_3 : List (S137)) (l0_4 : List (S135)) : Option (List Int) := impl_Dispatcher_running.l0 k ([] : List Int) 0 a0_0 a0_1 a0_2 l0_3 l0_4
theorem impl_Dispatcher_running.mono_l : ∀ k, (∀ y0 y1 y2 y3 y4 y5 y6, LeO (impl_Dispatcher_running.l0 k y0 y1 y2 y3 y4 y5 y6) (impl_Dispatcher_running.l0 (k + 1) y0 y1 y2 y3 y4 y5 y6)) ∧ (∀ y0 y1 y2 y3 y4 y5 y6 y7 y8 y9 y10, LeO (impl_Dispatcher_running.l1 k y0 y1 y2 y3 y4 y5 y6 y7 y8 y9 y10) (impl_Dispatcher_running.l1 (k + 1) y0 y1 y2 y3 y4 y5 y6 y7 y8 y9 y10))
 | 0 => ⟨fun _ _ _ _ _ _ _ r h => by simp [impl_Dispatcher_running.l0] at h, fun _ _ _ _ _ _ _ _ _ _ _ r h => by simp [impl_Dispatcher_running.l1] at h⟩
 | k + 1 => by
  obtain ⟨ih0, ih1⟩ := impl_Dispatcher_running.mono_l k
  refine ⟨?_, ?_⟩
  ·intro y0 y1 y2 y3 y4 y5 y6
   unfold impl_Dispatcher_running.l0
   repeat' first
   | (with_reducible exact ih0 _ _ _ _ _ _ _)
   | (with_reducible exact ih1 _ _ _ _ _ _ _ _ _ _ _)
   | (with_reducible exact LeO.refl _)
   | (with_reducible exact LeO.none _)
   | (with_reducible refine LeO.ite ?_ ?_)
   | (with_reducible refine LeO.bind ?_ (fun _ => ?_))
   | exact ih0 _ _ _ _ _ _ _
   | exact ih1 _ _ _ _ _ _ _ _ _ _ _
   | exact LeO.none _
   | refine LeO.ite ?_ ?_
   | refine LeO.bind ?_ (fun _ => ?_)
  ·intro y0 y1 y2 y3 y4 y5 y6 y7 y8 y9 y10
   unfold impl_Dispatcher_running.l1
   repeat' first
   | (with_reducible exact ih0 _ _ _ _ _ _ _)
   | (with_reducible exact ih1 _ _ _ _ _ _ _ _ _ _ _)
   | (with_reducible exact LeO.refl _)
   | (with_reducible exact LeO.none _)
   | (with_reducible refine LeO.ite ?_ ?_)
   | (with_reducible refine LeO.bind ?_ (fun _ => ?_))
   | exact ih0 _ _ _ _ _ _ _
   | exact ih1 _ _ _ _ _ _ _ _ _ _ _
   | exact LeO.none _
   | refine LeO.ite ?_ ?_
   | refine LeO.bind ?_ (fun _ => ?_)
theorem impl_Dispatcher_running.mono : ∀ a0 a1 a2 a3 a4 k, LeO (impl_Dispatcher_running.f k a0 a1 a2 a3 a4) (impl_Dispatcher_running.f (k + 1) a0 a1 a2 a3 a4) := by
 intro a0 a1 a2 a3 a4 k
 obtain ⟨ih0, ih1⟩ := impl_Dispatcher_running.mono_l k
 unfold impl_Dispatcher_running.f
 repeat' first
   | (with_reducible exact ih0 _ _ _ _ _ _ _)
   | (with_reducible exact ih1 _ _ _ _ _ _ _ _ _ _ _)
   | (with_reducible exact LeO.refl _)
   | (with_reducible exact LeO.none _)
   | (with_reducible refine LeO.ite ?_ ?_)
   | (with_reducible refine LeO.bind ?_ (fun _ => ?_))
   | exact ih0 _ _ _ _ _ _ _
   | exact ih1 _ _ _ _ _ _ _ _ _ _ _
   | exact LeO.none _
   | refine LeO.ite ?_ ?_
   | refine LeO.bind ?_ (fun _ => ?_)
def impl_Dispatcher_running.T9 : Bool × List (List Nat × List Nat) := (true, [([], []), ([0], [0]), ([], []), ([1, 2], [1, 2]), ([3], [3]), ([4], [4]), ([5, 4], [4, 5]), ([4], [4]), ([7, 4], [4, 7]), ([6, 8, 4], [4, 6, 8]), ([4, 9], [4, 9]), ([10, 4], [10]), ([11], [11]), ([11], [11]), ([12, 13, 11, 11], [11, 12, 13]), ([11], [11]), ([15, 11], [11, 15]), ([14, 16, 11], [11, 14, 16]), ([11, 17], [11, 17])])
def impl_Dispatcher_running.B9 : List Nat := [0, 1, 0, 7, 15, 31, 63, 31, 159, 511, 1023, 2047, 4095, 4095, 16383, 4095, 36863, 131071, 262143]
theorem impl_Dispatcher_running.tab9 : rtab .any (opsOf Try.f100 9) = impl_Dispatcher_running.T9 := by kernel_rfl
theorem impl_Dispatcher_running.bits9 : waitsOk impl_Dispatcher_running.T9.2 impl_Dispatcher_running.B9 = true := by kernel_rfl
set_option maxHeartbeats 8000000 in
set_option maxRecDepth 100000 in
theorem impl_Dispatcher_running.calls (k : Nat) (a0_0 : Int) (a0_1 : Int) (a0_2 : Int) (A0_3 : Option Addr) (c0_3 : Nat) (l0_3 : List (S137)) (A0_4 : Option Addr) (c0_4 : Nat) (l0_4 : List (S135)) (r : List Int) (w : World) (hr0_3 : Kd.C k137 w A0_3 l0_3.length l0_3) (hc0_3 : l0_3.length ≤ c0_3) (hr0_4 : Kd.C k135 w A0_4 l0_4.length l0_4) (hc0_4 : l0_4.length ≤ c0_4) (h : impl_Dispatcher_running.f k a0_0 a0_1 a0_2 l0_3 l0_4 = some r) :
  Calls Try.prog 100 #[.agg #[.int .i64 a0_0, .int .i64 a0_1, .int .i64 a0_2, .slice A0_3 l0_3.length c0_3, .slice A0_4 l0_4.length c0_4]] w fun e w' => ∃ v0_ : Value, e = .returned (v0_) ∧ Kd.R (Kd.int .i64) 3 w' w.heap.size (fun _ => True) v0_ r ∧ Below w.heap.size w w' := by
 have hu25 := Try.underlying25
 have hu135 := Try.underlying135
 have HR0_3 := Aside0.mk hr0_3
 have HC0_3 := Aside0.mk hc0_3
 clear hr0_3 hc0_3
 have HR0_4 := Aside0.mk hr0_4
 have HC0_4 := Aside0.mk hc0_4
 clear hr0_4 hc0_4
 have HB := Aside0.mk (Below.refl w.heap.size w)
 have H : (impl_Dispatcher_running.l0 k ([] : List Int) 0 a0_0 a0_1 a0_2 l0_3 l0_4) = some r := h
 clear h
 have H' := Aside0.mk H
 clear H
 go_enter Try.func100, Try.ntmps100
 go_wp2_with (first | ((with_reducible refine gate_dst (N := 1) rfl ?_); refine box_event ?hg (N := 1) ?hd (cs := #[.int .i64 a0_0, .int .i64 a0_1, .int .i64 a0_2, .slice A0_3 l0_3.length c0_3, .slice A0_4 l0_4.length c0_4]) (t := 25) ?hr ?_; (case hd => rfl); (case hg => rfl); (case hr => first | (go_simp; done) | (go_simp; rfl)); intro gb647 hg w2 hbox hb; have n0_ := Aside0.mk (below_step (bw HB.out) hb); have n1_ := Aside0.mk (hbox); have n2_ := ge_ hg HB.out; have n3_ := ge_ hg HB.out; clear HB; have HB := n0_; have BK647 := n1_; have GW647 := n2_; have GE647 := n3_; clear n0_ n1_ n2_ n3_; clear hb hbox hg))
 go_loopg [3, 4] k (fun kq v3 v4 w' => ∃ (x3_1 : List Int) (x4_1 : Int), v4 = .int .i64 x4_1 ∧ Aside0 (impl_Dispatcher_running.l0 kq x3_1 x4_1 a0_0 a0_1 a0_2 l0_3 l0_4 = some r) ∧ Aside0 (kq ≤ k) ∧ Aside0 (Kd.R (Kd.int .i64) 3 w' w.heap.size (fun _ => True) v3 x3_1) ∧ Aside0 (w'.heap[gb647]? = some (.cells #[.int .i64 a0_0, .int .i64 a0_1, .int .i64 a0_2, (.slice A0_3 l0_3.length c0_3), (.slice A0_4 l0_4.length c0_4)] 25 (0, 0))) ∧ Aside0 (Below w.heap.size w w'))
 case atStart => exact ⟨(([] : List Int)), (0), (by first | rfl | (simp; done) | (simp [*]; done)), H', ⟨Nat.le_refl _⟩, ⟨by first | exact Kd.R_nil _ _ _ _ _ | exact Kd.N_nil _ _ _ _ _ | exact Kd.V_nil _ _ _ _ _ | exact Kd.Q_nil _ _ _ _ _ | exact Kd.S_nil _ _ _ _ _⟩, ⟨bs BK647.out⟩, ⟨by repeat (first | (with_reducible first | exact bw HB.out | refine bset ?_ (by assumption) | apply below_alloc | apply pw_below_drewN | apply below_drew1) | exact HB.out)⟩⟩
 case round =>
  clear H'
  try clear c1
  try clear p2
  obtain ⟨x3_1, x4_1, rfl, HA, HK1, HO_3, BK647, HB⟩ := hrel
  cases gk with
  | zero => exact absurd HA.out (by simp [impl_Dispatcher_running.l0])
  | succ k1 =>
   have H := HA.out
   clear HA
   simp only [impl_Dispatcher_running.l0] at H
   by_cases c3 : x4_1 < a0_0
   ·rw [if_pos c3] at H
    have c3b0 : decide (x4_1 < a0_0) = true := decide_eq_true c3
    clear c3
    have H' := Aside0.mk H
    clear H
    have hcz4_0 := b5_0 BK647.out
    have hcz4_1 := b5_1 BK647.out
    have hcz4_2 := b5_2 BK647.out
    have hcz4_3 := b5_3 BK647.out
    have hcz4_4 := b5_4 BK647.out
    have hfz4_0 := blk_frozen BK647.out 0
    have hfz4_1 := blk_frozen BK647.out 1
    have hfz4_2 := blk_frozen BK647.out 2
    have hfz4_3 := blk_frozen BK647.out 3
    have hfz4_4 := blk_frozen BK647.out 4
    go_wp2
    go_loopg [5, 17] k1 (fun kq v5 v17 w' => ∃ (x5_2 : Int) (x17_2 : Int), v5 = .int .i64 x5_2 ∧ v17 = .int .i64 x17_2 ∧ Aside0 (impl_Dispatcher_running.l1 kq x3_1 x4_1 x5_2 l0_4 (l0_4.length : Int) x17_2 a0_0 a0_1 a0_2 l0_3 l0_4 = some r) ∧ Aside0 (kq ≤ k1) ∧ Aside0 (Kd.R (Kd.int .i64) 3 w' w.heap.size (fun _ => True) u3 x3_1) ∧ Aside0 (w'.heap[gb647]? = some (.cells #[.int .i64 a0_0, .int .i64 a0_1, .int .i64 a0_2, (.slice A0_3 l0_3.length c0_3), (.slice A0_4 l0_4.length c0_4)] 25 (0, 0))) ∧ Aside0 (Below w.heap.size w w'))
    case atStart => exact ⟨((-1)), (0), (by first | rfl | (simp; done) | (simp [*]; done)), (by first | rfl | (simp; done) | (simp [*]; done)), H', ⟨Nat.le_refl _⟩, ⟨bR HO_3.out⟩, ⟨bs BK647.out⟩, ⟨by repeat (first | (with_reducible first | exact bw HB.out | refine bset ?_ (by assumption) | apply below_alloc | apply pw_below_drewN | apply below_drew1) | exact HB.out)⟩⟩
    case round =>
     clear H'
     try clear c1
     try clear p2
     try clear c3
     try clear c3b0
     try clear hcz4_0
     try clear hcz4_1
     try clear hcz4_2
     try clear hcz4_3
     try clear hcz4_4
     try clear hfz4_0
     try clear hfz4_1
     try clear hfz4_2
     try clear hfz4_3
     try clear hfz4_4
     try clear p2
     obtain ⟨x5_2, x17_2, rfl, rfl, HA, HK2, HO_3, BK647, HB⟩ := hrel
     cases gk with
     | zero => exact absurd HA.out (by simp [impl_Dispatcher_running.l1])
     | succ k2 =>
      have H := HA.out
      clear HA
      simp only [impl_Dispatcher_running.l1] at H
      by_cases c5 : x17_2 < (l0_4.length : Int)
      ·rw [if_pos c5] at H
       have c5b0 : decide (x17_2 < (l0_4.length : Int)) = true := decide_eq_true c5
       clear c5
       by_cases c6 : 0 ≤ x17_2
       ·rw [if_pos c6] at H
        have c6b0 : decide (0 ≤ x17_2) = true := decide_eq_true c6
        clear c6
        by_cases c7 : x17_2 < (l0_4.length : Int)
        ·rw [if_pos c7] at H
         have c7b0 : decide (x17_2 < (l0_4.length : Int)) = true := decide_eq_true c7
         clear c7
         by_cases c8 : ((rd_T135 l0_4 x17_2).f1) = x4_1
         ·rw [if_pos c8] at H
          have c8b0 : (((rd_T135 l0_4 x17_2).f1) == x4_1) = true := beq_iff_eq.mpr c8
          have c8b1 : (((rd_T135 l0_4 x17_2).f1) != x4_1) = false := bne_eq_false_iff_eq.mpr c8
          clear c8
          by_cases c9 : ((rd_T135 l0_4 x17_2).f2) ≤ a0_2
          ·rw [if_pos c9] at H
           have c9b0 : decide (((rd_T135 l0_4 x17_2).f2) ≤ a0_2) = true := decide_eq_true c9
           clear c9
           replace H := Option.bind_eq_some_iff.mp H
           obtain ⟨t650, A100, H⟩ := H
           replace H : (if t650 > a0_2 then (impl_Dispatcher_running.l1 k2 x3_1 x4_1 ((rd_T135 l0_4 x17_2).f0) l0_4 (l0_4.length : Int) (wrap64 (x17_2 + 1)) a0_0 a0_1 a0_2 l0_3 l0_4) else (impl_Dispatcher_running.l1 k2 x3_1 x4_1 x5_2 l0_4 (l0_4.length : Int) (wrap64 (x17_2 + 1)) a0_0 a0_1 a0_2 l0_3 l0_4)) = some r := H
           have A10 := Aside0.mk A100
           clear A100
           by_cases c11 : t650 > a0_2
           ·rw [if_pos c11] at H
            have c11b0 : decide (a0_2 < t650) = true := decide_eq_true c11
            clear c11
            have H' := Aside0.mk H
            clear H
            have p648 : 0 ≤ (x17_2 : Int) := of_decide_eq_true (by first | (with_reducible assumption) | assumption)
            have q648 : x17_2 < (l0_4.length : Int) := of_decide_eq_true (by first | (with_reducible assumption) | assumption)
            obtain ⟨ad648, e648, hx648_0, hx648_1, hx648_2⟩ := at_T135 HR0_4.out x17_2 p648 q648
            cases e648
            replace hx648_0 := (HB.out.cell (World.block_lt_of_cell? w _ hx648_0)).trans hx648_0
            replace hx648_1 := (HB.out.cell (World.block_lt_of_cell? w _ hx648_1)).trans hx648_1
            replace hx648_2 := (HB.out.cell (World.block_lt_of_cell? w _ hx648_2)).trans hx648_2
            replace p648 := eq_true p648
            replace q648 := eq_true q648
            try go_wp2_with (first | ((with_reducible refine gate_dst (N := 7) rfl ?_); refine box_event ?hg (N := 7) ?hd (cs := #[.int .i64 0, .int .i64 0, .int .i64 0]) (t := 135) ?hr ?_; (case hd => rfl); (case hg => rfl); (case hr => first | (go_simp; done) | (go_simp; rfl)); intro gb649 hg w12 hbox hb; have n0_ := Aside0.mk (Kd.R_below (bR HO_3.out) hb); have n1_ := Aside0.mk (blk_below (bs BK647.out) hb); have n2_ := Aside0.mk (below_step (by repeat (first | (with_reducible first | exact bw HB.out | refine bset ?_ (by assumption) | apply below_alloc | apply pw_below_drewN | apply below_drew1) | exact HB.out)) hb); have n3_ := Aside0.mk (hbox); have n4_ := Aside0.mk ((by rw [hg]; exact (below_size (by repeat (first | (with_reducible first | exact bw HB.out | refine bset ?_ (by assumption) | apply below_alloc | apply pw_below_drewN | apply below_drew1) | exact HB.out))) : w.heap.size ≤ gb649)); have n5_ := Aside0.mk ((by rw [hg]; exact (below_size (by repeat (first | (with_reducible first | exact bw HB.out | refine bset ?_ (by assumption) | apply below_alloc | apply pw_below_drewN | apply below_drew1) | exact HB.out))) : w.heap.size ≤ gb649)); have n6_ := ne_ hg BK647.out; have n7_ := en_ hg BK647.out; clear HO_3; clear BK647; clear HB; have HO_3 := n0_; have BK647 := n1_; have HB := n2_; have BK649 := n3_; have GW649 := n4_; have GE649 := n5_; have NB647_649 := n6_; have NB649_647 := n7_; clear n0_ n1_ n2_ n3_ n4_ n5_ n6_ n7_; clear hb hbox hg; have hnb13 := NB649_647.out; have hnc13 := NB647_649.out; have hcz14_0 := b3_0 BK649.out; have hcz14_1 := b3_1 BK649.out; have hcz14_2 := b3_2 BK649.out; have hfz14_0 := blk_frozen BK649.out 0; have hfz14_1 := blk_frozen BK649.out 1; have hfz14_2 := blk_frozen BK649.out 2))
            have n0_ : Aside0 (Kd.R (Kd.int .i64) 3 (((w12.setCell ⟨gb649, 0, none⟩ (.int .i64 ((rd_T135 l0_4 x17_2).f0))).setCell ⟨gb649, 1, none⟩ (.int .i64 ((rd_T135 l0_4 x17_2).f1))).setCell ⟨gb649, 2, none⟩ (.int .i64 ((rd_T135 l0_4 x17_2).f2))) w.heap.size (fun _ => True) u3 x3_1) := ⟨by (with_reducible repeat (first | apply Kd.R_alloc | apply Kd.R_drewN | apply Kd.R_drew)); exact Kd.R_mono (Kd.R_far (p := ⟨gb649, 2, none⟩) (Kd.R_far (p := ⟨gb649, 1, none⟩) (Kd.R_far (p := ⟨gb649, 0, none⟩) (Kd.R_types HO_3.out BK649.out (by decide)) (fun _ hk => hk.2) (.int .i64 ((rd_T135 l0_4 x17_2).f0))) (fun _ hk => hk.2) (.int .i64 ((rd_T135 l0_4 x17_2).f1))) (fun _ hk => hk.2) (.int .i64 ((rd_T135 l0_4 x17_2).f2))) (fun _ hk => trivial)⟩
            have n1_ : Aside0 ((((w12.setCell ⟨gb649, 0, none⟩ (.int .i64 ((rd_T135 l0_4 x17_2).f0))).setCell ⟨gb649, 1, none⟩ (.int .i64 ((rd_T135 l0_4 x17_2).f1))).setCell ⟨gb649, 2, none⟩ (.int .i64 ((rd_T135 l0_4 x17_2).f2))).heap[gb647]? = some (.cells #[.int .i64 a0_0, .int .i64 a0_1, .int .i64 a0_2, .slice A0_3 l0_3.length c0_3, .slice (some ad648) l0_4.length c0_4] 25 (0, 0))) := ⟨by (with_reducible repeat (first | refine blk_drewN ?_ _ | refine blk_drew ?_ | refine blk_alloc ?_ _)); refine blk_far ?_ NB647_649.out _; (with_reducible repeat (first | refine blk_drewN ?_ _ | refine blk_drew ?_ | refine blk_alloc ?_ _)); refine blk_far ?_ NB647_649.out _; (with_reducible repeat (first | refine blk_drewN ?_ _ | refine blk_drew ?_ | refine blk_alloc ?_ _)); refine blk_far ?_ NB647_649.out _; exact bs BK647.out⟩
            have n2_ : Aside0 ((((w12.setCell ⟨gb649, 0, none⟩ (.int .i64 ((rd_T135 l0_4 x17_2).f0))).setCell ⟨gb649, 1, none⟩ (.int .i64 ((rd_T135 l0_4 x17_2).f1))).setCell ⟨gb649, 2, none⟩ (.int .i64 ((rd_T135 l0_4 x17_2).f2))).heap[gb649]? = some (.cells #[.int .i64 ((rd_T135 l0_4 x17_2).f0), .int .i64 ((rd_T135 l0_4 x17_2).f1), .int .i64 ((rd_T135 l0_4 x17_2).f2)] 135 (0, 0))) := ⟨by (with_reducible repeat (first | refine blk_drewN ?_ _ | refine blk_drew ?_ | refine blk_alloc ?_ _)); refine blk_put (cs := #[.int .i64 ((rd_T135 l0_4 x17_2).f0), .int .i64 ((rd_T135 l0_4 x17_2).f1), .int .i64 0]) ?_ 2 _ rfl; (with_reducible repeat (first | refine blk_drewN ?_ _ | refine blk_drew ?_ | refine blk_alloc ?_ _)); refine blk_put (cs := #[.int .i64 ((rd_T135 l0_4 x17_2).f0), .int .i64 0, .int .i64 0]) ?_ 1 _ rfl; (with_reducible repeat (first | refine blk_drewN ?_ _ | refine blk_drew ?_ | refine blk_alloc ?_ _)); refine blk_put (cs := #[.int .i64 0, .int .i64 0, .int .i64 0]) ?_ 0 _ rfl; exact bs BK649.out⟩
            have n3_ : Aside0 (Below w.heap.size w (((w12.setCell ⟨gb649, 0, none⟩ (.int .i64 ((rd_T135 l0_4 x17_2).f0))).setCell ⟨gb649, 1, none⟩ (.int .i64 ((rd_T135 l0_4 x17_2).f1))).setCell ⟨gb649, 2, none⟩ (.int .i64 ((rd_T135 l0_4 x17_2).f2)))) := ⟨by repeat (first | (with_reducible first | exact bw HB.out | refine bset ?_ (by assumption) | apply below_alloc | apply pw_below_drewN | apply below_drew1) | exact HB.out)⟩
            (try clear HO_3)
            (try clear BK647)
            (try clear BK649)
            (try clear HB)
            (try simp only [setCell_drewN])
            generalize (((w12.setCell ⟨gb649, 0, none⟩ (.int .i64 ((rd_T135 l0_4 x17_2).f0))).setCell ⟨gb649, 1, none⟩ (.int .i64 ((rd_T135 l0_4 x17_2).f1))).setCell ⟨gb649, 2, none⟩ (.int .i64 ((rd_T135 l0_4 x17_2).f2))) = w15 at n0_ n1_ n2_ n3_ ⊢
            have HO_3 := n0_
            have BK647 := n1_
            have BK649 := n2_
            have HB := n3_
            clear n0_ n1_ n2_ n3_
            have n0_ := Aside0.mk (Kd.R_drew HO_3.out)
            have n1_ := Aside0.mk (blk_drew BK647.out)
            have n2_ := Aside0.mk (blk_drew BK649.out)
            have n3_ := Aside0.mk (below_drew1 HB.out)
            clear HO_3
            clear BK647
            clear BK649
            clear HB
            have HO_3 := n0_
            have BK647 := n1_
            have BK649 := n2_
            have HB := n3_
            clear n0_ n1_ n2_ n3_
            refine start_ (n := 19) (S := fun w' => w'.cell? ⟨gb649, 0, none⟩ = some (.int .i64 ((rd_T135 l0_4 x17_2).f0)) ∧ w'.cell? ⟨gb649, 1, none⟩ = some (.int .i64 ((rd_T135 l0_4 x17_2).f1)) ∧ w'.cell? ⟨gb649, 2, none⟩ = some (.int .i64 ((rd_T135 l0_4 x17_2).f2)) ∧ w'.cell? ⟨gb647, 0, none⟩ = some (.int .i64 a0_0) ∧ w'.cell? ⟨gb647, 1, none⟩ = some (.int .i64 a0_1) ∧ w'.cell? ⟨gb647, 2, none⟩ = some (.int .i64 a0_2) ∧ w'.cell? ⟨gb647, 3, none⟩ = some (.slice A0_3 l0_3.length c0_3) ∧ w'.cell? ⟨gb647, 4, none⟩ = some (.slice (some ad648) l0_4.length c0_4)) (ds := []) q100_0 (by kernel_rfl) rfl rfl ⟨(blk_cell BK649.out 0).trans rfl, (blk_cell BK649.out 1).trans rfl, (blk_cell BK649.out 2).trans rfl, (blk_cell BK647.out 0).trans rfl, (blk_cell BK647.out 1).trans rfl, (blk_cell BK647.out 2).trans rfl, (blk_cell BK647.out 3).trans rfl, (blk_cell BK647.out 4).trans rfl⟩ (fun hHeld => ?_); refine with_tabW impl_Dispatcher_running.tab9 impl_Dispatcher_running.bits9 (fun HT_ HW_ => ?_)
            generalize w15.drew = w16 at HO_3 BK647 BK649 HB hHeld ⊢
            refine pup_ (i := 0) (N := some 21) (v := ?_) (a' := ?_) HT_ rfl rfl (by kernel_rfl) (fun _ _ _ h => h) (Or.inl ⟨by rfl, ?_⟩) ?_ ?_
            rotate_left
            ·intro w'
             go_simp
             with_reducible rfl
            rotate_left
            ·simp only [aq_]
             rfl
            refine pup_ (i := 2) (N := some 23) (v := ?_) (a' := ?_) HT_ rfl rfl (by kernel_rfl) (fun _ _ _ h => h) (Or.inl ⟨by rfl, ?_⟩) ?_ ?_
            rotate_left
            ·intro w'
             go_simp
             with_reducible rfl
            rotate_left
            ·simp only [aq_]
             rfl
            refine take_ (i := 1) (N := some 22) (v := ?_) (a' := ?_) q100_3 rfl rfl (take_ofW HT_.out HW_.out (by kernel_rfl)) (fun _ _ _ h => h) (Or.inl ⟨by rfl, ?_⟩) hHeld ?_ ?_
            rotate_left
            ·rintro w' ⟨s0, s1, s2, s3, s4, s5, s6, s7⟩
             go_simp
             with_reducible rfl
            rotate_left
            ·simp only [aq_]
             rfl
            refine pup_ (i := 3) (N := some 24) (v := ?_) (a' := ?_) HT_ rfl rfl (by kernel_rfl) (fun _ _ _ h => h) (Or.inl ⟨by rfl, ?_⟩) ?_ ?_
            rotate_left
            ·intro w'
             go_simp
             with_reducible rfl
            rotate_left
            ·simp only [aq_]
             rfl
            refine pup_ (i := 4) (N := some 25) (v := ?_) (a' := ?_) HT_ rfl rfl (by kernel_rfl) (fun _ _ _ h => h) (Or.inl ⟨by rfl, ?_⟩) ?_ ?_
            rotate_left
            ·intro w'
             go_simp
             with_reducible rfl
            rotate_left
            ·simp only [aq_]
             rfl
            refine pup_ (i := 5) (N := some 26) (v := ?_) (a' := ?_) HT_ rfl rfl (by kernel_rfl) (fun _ _ _ h => h) (Or.inl ⟨by rfl, ?_⟩) ?_ ?_
            rotate_left
            ·intro w'
             go_simp
             with_reducible rfl
            rotate_left
            ·simp only [aq_]
             rfl
            refine pup_ (i := 7) (N := some 28) (v := ?_) (a' := ?_) HT_ rfl rfl (by kernel_rfl) (fun _ _ _ h => h) (Or.inl ⟨by rfl, ?_⟩) ?_ ?_
            rotate_left
            ·intro w'
             go_simp
             with_reducible rfl
            rotate_left
            ·simp only [aq_]
             rfl
            refine take_ (i := 6) (N := some 27) (v := ?_) (a' := ?_) q100_8 rfl rfl (take_ofW HT_.out HW_.out (by kernel_rfl)) (fun _ _ _ h => h) (Or.inl ⟨by rfl, ?_⟩) hHeld ?_ ?_
            rotate_left
            ·rintro w' ⟨s0, s1, s2, s3, s4, s5, s6, s7⟩
             go_simp
             with_reducible rfl
            rotate_left
            ·simp only [aq_]
             rfl
            refine take_ (i := 8) (N := some 29) (v := ?_) (a' := ?_) q100_9 rfl rfl (take_ofW HT_.out HW_.out (by kernel_rfl)) (fun _ _ _ h => h) (Or.inl ⟨by rfl, ?_⟩) hHeld ?_ ?_
            rotate_left
            ·rintro w' ⟨s0, s1, s2, s3, s4, s5, s6, s7⟩
             go_simp
             with_reducible rfl
            rotate_left
            ·simp only [aq_]
             rfl
            refine pup_ (i := 9) (N := some 30) (v := ?_) (a' := ?_) HT_ rfl rfl (by kernel_rfl) (fun _ _ _ h => h) (Or.inl ⟨by rfl, ?_⟩) ?_ ?_
            rotate_left
            ·intro w'
             go_simp
             with_reducible rfl
            rotate_left
            ·simp only [aq_]
             rfl
            refine pup_ (i := 10) (N := some 31) (v := ?_) (a' := ?_) HT_ rfl rfl (by kernel_rfl) (fun _ _ _ h => h) (Or.inl ⟨by rfl, ?_⟩) ?_ ?_
            rotate_left
            ·intro w'
             go_simp
             with_reducible rfl
            rotate_left
            ·simp only [aq_]
             rfl
            refine pup_ (i := 11) (N := some 32) (v := ?_) (a' := ?_) HT_ rfl rfl (by kernel_rfl) (fun _ _ _ h => h) (Or.inl ⟨by rfl, ?_⟩) ?_ ?_
            rotate_left
            ·intro w'
             go_simp
             with_reducible rfl
            rotate_left
            ·simp only [aq_]
             rfl
            refine pup_ (i := 15) (N := some 36) (v := ?_) (a' := ?_) HT_ rfl rfl (by kernel_rfl) (fun _ _ _ h => h) (Or.inl ⟨by rfl, ?_⟩) ?_ ?_
            rotate_left
            ·intro w'
             go_simp
             with_reducible rfl
            rotate_left
            ·simp only [aq_]
             rfl
            refine take_ (i := 12) (N := some 33) (v := ?_) (a' := ?_) q100_14 rfl rfl (take_ofW HT_.out HW_.out (by kernel_rfl)) (fun _ _ _ h => h) (Or.inl ⟨by rfl, ?_⟩) hHeld ?_ ?_
            rotate_left
            ·rintro w' ⟨s0, s1, s2, s3, s4, s5, s6, s7⟩
             go_simp
             with_reducible rfl
            rotate_left
            ·simp only [aq_]
             rfl
            refine take_ (i := 13) (N := some 34) (v := ?_) (a' := ?_) q100_15 rfl rfl (take_ofW HT_.out HW_.out (by kernel_rfl)) (fun _ _ _ h => h) (Or.inl ⟨by rfl, ?_⟩) hHeld ?_ ?_
            rotate_left
            ·rintro w' ⟨s0, s1, s2, s3, s4, s5, s6, s7⟩
             go_simp
             with_reducible rfl
            rotate_left
            ·simp only [aq_]
             rfl
            refine take_ (i := 16) (N := some 37) (v := ?_) (a' := ?_) q100_16 rfl rfl (take_ofW HT_.out HW_.out (by kernel_rfl)) (fun _ _ _ h => h) (Or.inl ⟨by rfl, ?_⟩) hHeld ?_ ?_
            rotate_left
            ·rintro w' ⟨s0, s1, s2, s3, s4, s5, s6, s7⟩
             go_simp
             with_reducible rfl
            rotate_left
            ·simp only [aq_]
             rfl
            refine one_ (i := 14) (N := some 35) q100_17 rfl rfl (one_of HT_.out (by kernel_rfl)) (by decide) (fun K hK => ?_)
            refine goes_ Try.func124 (by kernel_rfl) rfl #[.agg #[.int .i64 a0_0, .int .i64 a0_1, .int .i64 a0_2, .slice A0_3 l0_3.length c0_3, .slice (some ad648) l0_4.length c0_4], .agg #[.int .i64 ((rd_T135 l0_4 x17_2).f0), .int .i64 ((rd_T135 l0_4 x17_2).f1), .int .i64 ((rd_T135 l0_4 x17_2).f2)]] (by rfl) rfl rfl (by (try simp only [mA_]); first | done | rfl | (simp only [List.length_drop, List.length_take]; rfl)) ?_
            with_reducible refine (impl_Dispatcher_endOf.calls a0_0 a0_1 a0_2 _ _ l0_3 _ _ l0_4 ((rd_T135 l0_4 x17_2).f0) ((rd_T135 l0_4 x17_2).f1) ((rd_T135 l0_4 x17_2).f2) t650 _ ?side1 ?side2 ?side3 ?side4 A10.out).mono ?_
            (case side1 => first | exact bC HR0_3.out HB.out | exact Kd.C_below HR0_3.out HB.out)
            (case side2 => exact HC0_3.out)
            (case side3 => first | exact bC HR0_4.out HB.out | exact Kd.C_below HR0_4.out HB.out)
            (case side4 => exact HC0_4.out)
            rintro e w17 ⟨rfl, hb⟩
            refine ⟨_, rfl, ?_⟩
            have n0_ := Aside0.mk (Kd.R_below (bR HO_3.out) hb)
            have n1_ := Aside0.mk (blk_below (bs BK647.out) hb)
            have n2_ := Aside0.mk (blk_below (bs BK649.out) hb)
            have n3_ := Aside0.mk (below_step (by repeat (first | (with_reducible first | exact bw HB.out | refine bset ?_ (by assumption) | apply below_alloc | apply pw_below_drewN | apply below_drew1) | exact HB.out)) hb)
            clear HO_3
            clear BK647
            clear BK649
            clear HB
            have HO_3 := n0_
            have BK647 := n1_
            have BK649 := n2_
            have HB := n3_
            clear n0_ n1_ n2_ n3_
            (try clear hb)
            (try clear hb2)
            (try clear hk)
            (try clear hi)
            refine hK.out _ _ ⟨(blk_cell BK649.out 0).trans rfl, (blk_cell BK649.out 1).trans rfl, (blk_cell BK649.out 2).trans rfl, (blk_cell BK647.out 0).trans rfl, (blk_cell BK647.out 1).trans rfl, (blk_cell BK647.out 2).trans rfl, (blk_cell BK647.out 3).trans rfl, (blk_cell BK647.out 4).trans rfl⟩ (fun hHeld => ?_)
            clear hK K
            refine norm_ (a' := ?_) ?_ ?_
            rotate_left
            ·show Act.put _ (some 35) _ = _
             simp only [aq_]
             rfl
            refine pup_ (i := 17) (N := some 38) (v := ?_) (a' := ?_) HT_ rfl rfl (by kernel_rfl) (fun _ _ _ h => h) (Or.inl ⟨by rfl, ?_⟩) ?_ ?_
            rotate_left
            ·intro w'
             go_simp
             with_reducible rfl
            rotate_left
            ·simp only [aq_]
             rfl
            refine pup_ (i := 18) (N := some 39) (v := ?_) (a' := ?_) HT_ rfl rfl (by kernel_rfl) (fun _ _ _ h => h) (Or.inl ⟨by rfl, ?_⟩) ?_ ?_
            rotate_left
            ·intro w'
             go_simp
             with_reducible rfl
            rotate_left
            ·simp only [aq_]
             rfl
            refine done_ (done_of HT_.out (by kernel_rfl)) ?_
            have hcz18_0 := b3_0 BK649.out
            have hcz18_1 := b3_1 BK649.out
            have hcz18_2 := b3_2 BK649.out
            have hfz18_0 := blk_frozen BK649.out 0
            have hfz18_1 := blk_frozen BK649.out 1
            have hfz18_2 := blk_frozen BK649.out 2
            try go_wp2
            go_roundg k2
            case measure => have := HK1.out; have := HK2.out; omega
            case rel => exact ⟨((rd_T135 l0_4 x17_2).f0), (wrap64 (x17_2 + 1)), (by first | rfl | (simp; done) | (simp [*]; done)), (by first | rfl | (simp; done) | (simp [*]; done)), H', ⟨by have := HK1.out; have := HK2.out; omega⟩, ⟨bR HO_3.out⟩, ⟨bs BK647.out⟩, ⟨by repeat (first | (with_reducible first | exact bw HB.out | refine bset ?_ (by assumption) | apply below_alloc | apply pw_below_drewN | apply below_drew1) | exact HB.out)⟩⟩
           ·rw [if_neg c11] at H
            have c11b0 : decide (a0_2 < t650) = false := decide_eq_false c11
            clear c11
            have H' := Aside0.mk H
            clear H
            have p648 : 0 ≤ (x17_2 : Int) := of_decide_eq_true (by first | (with_reducible assumption) | assumption)
            have q648 : x17_2 < (l0_4.length : Int) := of_decide_eq_true (by first | (with_reducible assumption) | assumption)
            obtain ⟨ad648, e648, hx648_0, hx648_1, hx648_2⟩ := at_T135 HR0_4.out x17_2 p648 q648
            cases e648
            replace hx648_0 := (HB.out.cell (World.block_lt_of_cell? w _ hx648_0)).trans hx648_0
            replace hx648_1 := (HB.out.cell (World.block_lt_of_cell? w _ hx648_1)).trans hx648_1
            replace hx648_2 := (HB.out.cell (World.block_lt_of_cell? w _ hx648_2)).trans hx648_2
            replace p648 := eq_true p648
            replace q648 := eq_true q648
            try go_wp2_with (first | ((with_reducible refine gate_dst (N := 7) rfl ?_); refine box_event ?hg (N := 7) ?hd (cs := #[.int .i64 0, .int .i64 0, .int .i64 0]) (t := 135) ?hr ?_; (case hd => rfl); (case hg => rfl); (case hr => first | (go_simp; done) | (go_simp; rfl)); intro gb649 hg w19 hbox hb; have n0_ := Aside0.mk (Kd.R_below (bR HO_3.out) hb); have n1_ := Aside0.mk (blk_below (bs BK647.out) hb); have n2_ := Aside0.mk (below_step (by repeat (first | (with_reducible first | exact bw HB.out | refine bset ?_ (by assumption) | apply below_alloc | apply pw_below_drewN | apply below_drew1) | exact HB.out)) hb); have n3_ := Aside0.mk (hbox); have n4_ := Aside0.mk ((by rw [hg]; exact (below_size (by repeat (first | (with_reducible first | exact bw HB.out | refine bset ?_ (by assumption) | apply below_alloc | apply pw_below_drewN | apply below_drew1) | exact HB.out))) : w.heap.size ≤ gb649)); have n5_ := Aside0.mk ((by rw [hg]; exact (below_size (by repeat (first | (with_reducible first | exact bw HB.out | refine bset ?_ (by assumption) | apply below_alloc | apply pw_below_drewN | apply below_drew1) | exact HB.out))) : w.heap.size ≤ gb649)); have n6_ := ne_ hg BK647.out; have n7_ := en_ hg BK647.out; clear HO_3; clear BK647; clear HB; have HO_3 := n0_; have BK647 := n1_; have HB := n2_; have BK649 := n3_; have GW649 := n4_; have GE649 := n5_; have NB647_649 := n6_; have NB649_647 := n7_; clear n0_ n1_ n2_ n3_ n4_ n5_ n6_ n7_; clear hb hbox hg; have hnb20 := NB649_647.out; have hnc20 := NB647_649.out; have hcz21_0 := b3_0 BK649.out; have hcz21_1 := b3_1 BK649.out; have hcz21_2 := b3_2 BK649.out; have hfz21_0 := blk_frozen BK649.out 0; have hfz21_1 := blk_frozen BK649.out 1; have hfz21_2 := blk_frozen BK649.out 2))
            have n0_ : Aside0 (Kd.R (Kd.int .i64) 3 (((w19.setCell ⟨gb649, 0, none⟩ (.int .i64 ((rd_T135 l0_4 x17_2).f0))).setCell ⟨gb649, 1, none⟩ (.int .i64 ((rd_T135 l0_4 x17_2).f1))).setCell ⟨gb649, 2, none⟩ (.int .i64 ((rd_T135 l0_4 x17_2).f2))) w.heap.size (fun _ => True) u3 x3_1) := ⟨by (with_reducible repeat (first | apply Kd.R_alloc | apply Kd.R_drewN | apply Kd.R_drew)); exact Kd.R_mono (Kd.R_far (p := ⟨gb649, 2, none⟩) (Kd.R_far (p := ⟨gb649, 1, none⟩) (Kd.R_far (p := ⟨gb649, 0, none⟩) (Kd.R_types HO_3.out BK649.out (by decide)) (fun _ hk => hk.2) (.int .i64 ((rd_T135 l0_4 x17_2).f0))) (fun _ hk => hk.2) (.int .i64 ((rd_T135 l0_4 x17_2).f1))) (fun _ hk => hk.2) (.int .i64 ((rd_T135 l0_4 x17_2).f2))) (fun _ hk => trivial)⟩
            have n1_ : Aside0 ((((w19.setCell ⟨gb649, 0, none⟩ (.int .i64 ((rd_T135 l0_4 x17_2).f0))).setCell ⟨gb649, 1, none⟩ (.int .i64 ((rd_T135 l0_4 x17_2).f1))).setCell ⟨gb649, 2, none⟩ (.int .i64 ((rd_T135 l0_4 x17_2).f2))).heap[gb647]? = some (.cells #[.int .i64 a0_0, .int .i64 a0_1, .int .i64 a0_2, .slice A0_3 l0_3.length c0_3, .slice (some ad648) l0_4.length c0_4] 25 (0, 0))) := ⟨by (with_reducible repeat (first | refine blk_drewN ?_ _ | refine blk_drew ?_ | refine blk_alloc ?_ _)); refine blk_far ?_ NB647_649.out _; (with_reducible repeat (first | refine blk_drewN ?_ _ | refine blk_drew ?_ | refine blk_alloc ?_ _)); refine blk_far ?_ NB647_649.out _; (with_reducible repeat (first | refine blk_drewN ?_ _ | refine blk_drew ?_ | refine blk_alloc ?_ _)); refine blk_far ?_ NB647_649.out _; exact bs BK647.out⟩
            have n2_ : Aside0 ((((w19.setCell ⟨gb649, 0, none⟩ (.int .i64 ((rd_T135 l0_4 x17_2).f0))).setCell ⟨gb649, 1, none⟩ (.int .i64 ((rd_T135 l0_4 x17_2).f1))).setCell ⟨gb649, 2, none⟩ (.int .i64 ((rd_T135 l0_4 x17_2).f2))).heap[gb649]? = some (.cells #[.int .i64 ((rd_T135 l0_4 x17_2).f0), .int .i64 ((rd_T135 l0_4 x17_2).f1), .int .i64 ((rd_T135 l0_4 x17_2).f2)] 135 (0, 0))) := ⟨by (with_reducible repeat (first | refine blk_drewN ?_ _ | refine blk_drew ?_ | refine blk_alloc ?_ _)); refine blk_put (cs := #[.int .i64 ((rd_T135 l0_4 x17_2).f0), .int .i64 ((rd_T135 l0_4 x17_2).f1), .int .i64 0]) ?_ 2 _ rfl; (with_reducible repeat (first | refine blk_drewN ?_ _ | refine blk_drew ?_ | refine blk_alloc ?_ _)); refine blk_put (cs := #[.int .i64 ((rd_T135 l0_4 x17_2).f0), .int .i64 0, .int .i64 0]) ?_ 1 _ rfl; (with_reducible repeat (first | refine blk_drewN ?_ _ | refine blk_drew ?_ | refine blk_alloc ?_ _)); refine blk_put (cs := #[.int .i64 0, .int .i64 0, .int .i64 0]) ?_ 0 _ rfl; exact bs BK649.out⟩
            have n3_ : Aside0 (Below w.heap.size w (((w19.setCell ⟨gb649, 0, none⟩ (.int .i64 ((rd_T135 l0_4 x17_2).f0))).setCell ⟨gb649, 1, none⟩ (.int .i64 ((rd_T135 l0_4 x17_2).f1))).setCell ⟨gb649, 2, none⟩ (.int .i64 ((rd_T135 l0_4 x17_2).f2)))) := ⟨by repeat (first | (with_reducible first | exact bw HB.out | refine bset ?_ (by assumption) | apply below_alloc | apply pw_below_drewN | apply below_drew1) | exact HB.out)⟩
            (try clear HO_3)
            (try clear BK647)
            (try clear BK649)
            (try clear HB)
            (try simp only [setCell_drewN])
            generalize (((w19.setCell ⟨gb649, 0, none⟩ (.int .i64 ((rd_T135 l0_4 x17_2).f0))).setCell ⟨gb649, 1, none⟩ (.int .i64 ((rd_T135 l0_4 x17_2).f1))).setCell ⟨gb649, 2, none⟩ (.int .i64 ((rd_T135 l0_4 x17_2).f2))) = w22 at n0_ n1_ n2_ n3_ ⊢
            have HO_3 := n0_
            have BK647 := n1_
            have BK649 := n2_
            have HB := n3_
            clear n0_ n1_ n2_ n3_
            have n0_ := Aside0.mk (Kd.R_drew HO_3.out)
            have n1_ := Aside0.mk (blk_drew BK647.out)
            have n2_ := Aside0.mk (blk_drew BK649.out)
            have n3_ := Aside0.mk (below_drew1 HB.out)
            clear HO_3
            clear BK647
            clear BK649
            clear HB
            have HO_3 := n0_
            have BK647 := n1_
            have BK649 := n2_
            have HB := n3_
            clear n0_ n1_ n2_ n3_
            refine start_ (n := 19) (S := fun w' => w'.cell? ⟨gb649, 0, none⟩ = some (.int .i64 ((rd_T135 l0_4 x17_2).f0)) ∧ w'.cell? ⟨gb649, 1, none⟩ = some (.int .i64 ((rd_T135 l0_4 x17_2).f1)) ∧ w'.cell? ⟨gb649, 2, none⟩ = some (.int .i64 ((rd_T135 l0_4 x17_2).f2)) ∧ w'.cell? ⟨gb647, 0, none⟩ = some (.int .i64 a0_0) ∧ w'.cell? ⟨gb647, 1, none⟩ = some (.int .i64 a0_1) ∧ w'.cell? ⟨gb647, 2, none⟩ = some (.int .i64 a0_2) ∧ w'.cell? ⟨gb647, 3, none⟩ = some (.slice A0_3 l0_3.length c0_3) ∧ w'.cell? ⟨gb647, 4, none⟩ = some (.slice (some ad648) l0_4.length c0_4)) (ds := []) q100_0 (by kernel_rfl) rfl rfl ⟨(blk_cell BK649.out 0).trans rfl, (blk_cell BK649.out 1).trans rfl, (blk_cell BK649.out 2).trans rfl, (blk_cell BK647.out 0).trans rfl, (blk_cell BK647.out 1).trans rfl, (blk_cell BK647.out 2).trans rfl, (blk_cell BK647.out 3).trans rfl, (blk_cell BK647.out 4).trans rfl⟩ (fun hHeld => ?_); refine with_tabW impl_Dispatcher_running.tab9 impl_Dispatcher_running.bits9 (fun HT_ HW_ => ?_)
            generalize w22.drew = w23 at HO_3 BK647 BK649 HB hHeld ⊢
            refine pup_ (i := 0) (N := some 21) (v := ?_) (a' := ?_) HT_ rfl rfl (by kernel_rfl) (fun _ _ _ h => h) (Or.inl ⟨by rfl, ?_⟩) ?_ ?_
            rotate_left
            ·intro w'
             go_simp
             with_reducible rfl
            rotate_left
            ·simp only [aq_]
             rfl
            refine pup_ (i := 2) (N := some 23) (v := ?_) (a' := ?_) HT_ rfl rfl (by kernel_rfl) (fun _ _ _ h => h) (Or.inl ⟨by rfl, ?_⟩) ?_ ?_
            rotate_left
            ·intro w'
             go_simp
             with_reducible rfl
            rotate_left
            ·simp only [aq_]
             rfl
            refine take_ (i := 1) (N := some 22) (v := ?_) (a' := ?_) q100_3 rfl rfl (take_ofW HT_.out HW_.out (by kernel_rfl)) (fun _ _ _ h => h) (Or.inl ⟨by rfl, ?_⟩) hHeld ?_ ?_
            rotate_left
            ·rintro w' ⟨s0, s1, s2, s3, s4, s5, s6, s7⟩
             go_simp
             with_reducible rfl
            rotate_left
            ·simp only [aq_]
             rfl
            refine pup_ (i := 3) (N := some 24) (v := ?_) (a' := ?_) HT_ rfl rfl (by kernel_rfl) (fun _ _ _ h => h) (Or.inl ⟨by rfl, ?_⟩) ?_ ?_
            rotate_left
            ·intro w'
             go_simp
             with_reducible rfl
            rotate_left
            ·simp only [aq_]
             rfl
            refine pup_ (i := 4) (N := some 25) (v := ?_) (a' := ?_) HT_ rfl rfl (by kernel_rfl) (fun _ _ _ h => h) (Or.inl ⟨by rfl, ?_⟩) ?_ ?_
            rotate_left
            ·intro w'
             go_simp
             with_reducible rfl
            rotate_left
            ·simp only [aq_]
             rfl
            refine pup_ (i := 5) (N := some 26) (v := ?_) (a' := ?_) HT_ rfl rfl (by kernel_rfl) (fun _ _ _ h => h) (Or.inl ⟨by rfl, ?_⟩) ?_ ?_
            rotate_left
            ·intro w'
             go_simp
             with_reducible rfl
            rotate_left
            ·simp only [aq_]
             rfl
            refine pup_ (i := 7) (N := some 28) (v := ?_) (a' := ?_) HT_ rfl rfl (by kernel_rfl) (fun _ _ _ h => h) (Or.inl ⟨by rfl, ?_⟩) ?_ ?_
            rotate_left
            ·intro w'
             go_simp
             with_reducible rfl
            rotate_left
            ·simp only [aq_]
             rfl
            refine take_ (i := 6) (N := some 27) (v := ?_) (a' := ?_) q100_8 rfl rfl (take_ofW HT_.out HW_.out (by kernel_rfl)) (fun _ _ _ h => h) (Or.inl ⟨by rfl, ?_⟩) hHeld ?_ ?_
            rotate_left
            ·rintro w' ⟨s0, s1, s2, s3, s4, s5, s6, s7⟩
             go_simp
             with_reducible rfl
            rotate_left
            ·simp only [aq_]
             rfl
            refine take_ (i := 8) (N := some 29) (v := ?_) (a' := ?_) q100_9 rfl rfl (take_ofW HT_.out HW_.out (by kernel_rfl)) (fun _ _ _ h => h) (Or.inl ⟨by rfl, ?_⟩) hHeld ?_ ?_
            rotate_left
            ·rintro w' ⟨s0, s1, s2, s3, s4, s5, s6, s7⟩
             go_simp
             with_reducible rfl
            rotate_left
            ·simp only [aq_]
             rfl
            refine pup_ (i := 9) (N := some 30) (v := ?_) (a' := ?_) HT_ rfl rfl (by kernel_rfl) (fun _ _ _ h => h) (Or.inl ⟨by rfl, ?_⟩) ?_ ?_
            rotate_left
            ·intro w'
             go_simp
             with_reducible rfl
            rotate_left
            ·simp only [aq_]
             rfl
            refine pup_ (i := 10) (N := some 31) (v := ?_) (a' := ?_) HT_ rfl rfl (by kernel_rfl) (fun _ _ _ h => h) (Or.inl ⟨by rfl, ?_⟩) ?_ ?_
            rotate_left
            ·intro w'
             go_simp
             with_reducible rfl
            rotate_left
            ·simp only [aq_]
             rfl
            refine pup_ (i := 11) (N := some 32) (v := ?_) (a' := ?_) HT_ rfl rfl (by kernel_rfl) (fun _ _ _ h => h) (Or.inl ⟨by rfl, ?_⟩) ?_ ?_
            rotate_left
            ·intro w'
             go_simp
             with_reducible rfl
            rotate_left
            ·simp only [aq_]
             rfl
            refine pup_ (i := 15) (N := some 36) (v := ?_) (a' := ?_) HT_ rfl rfl (by kernel_rfl) (fun _ _ _ h => h) (Or.inl ⟨by rfl, ?_⟩) ?_ ?_
            rotate_left
            ·intro w'
             go_simp
             with_reducible rfl
            rotate_left
            ·simp only [aq_]
             rfl
            refine take_ (i := 12) (N := some 33) (v := ?_) (a' := ?_) q100_14 rfl rfl (take_ofW HT_.out HW_.out (by kernel_rfl)) (fun _ _ _ h => h) (Or.inl ⟨by rfl, ?_⟩) hHeld ?_ ?_
            rotate_left
            ·rintro w' ⟨s0, s1, s2, s3, s4, s5, s6, s7⟩
             go_simp
             with_reducible rfl
            rotate_left
            ·simp only [aq_]
             rfl
            refine take_ (i := 13) (N := some 34) (v := ?_) (a' := ?_) q100_15 rfl rfl (take_ofW HT_.out HW_.out (by kernel_rfl)) (fun _ _ _ h => h) (Or.inl ⟨by rfl, ?_⟩) hHeld ?_ ?_
            rotate_left
            ·rintro w' ⟨s0, s1, s2, s3, s4, s5, s6, s7⟩
             go_simp
             with_reducible rfl
            rotate_left
            ·simp only [aq_]
             rfl
            refine take_ (i := 16) (N := some 37) (v := ?_) (a' := ?_) q100_16 rfl rfl (take_ofW HT_.out HW_.out (by kernel_rfl)) (fun _ _ _ h => h) (Or.inl ⟨by rfl, ?_⟩) hHeld ?_ ?_
            rotate_left
            ·rintro w' ⟨s0, s1, s2, s3, s4, s5, s6, s7⟩
             go_simp
             with_reducible rfl
            rotate_left
            ·simp only [aq_]
             rfl
            refine one_ (i := 14) (N := some 35) q100_17 rfl rfl (one_of HT_.out (by kernel_rfl)) (by decide) (fun K hK => ?_)
            refine goes_ Try.func124 (by kernel_rfl) rfl #[.agg #[.int .i64 a0_0, .int .i64 a0_1, .int .i64 a0_2, .slice A0_3 l0_3.length c0_3, .slice (some ad648) l0_4.length c0_4], .agg #[.int .i64 ((rd_T135 l0_4 x17_2).f0), .int .i64 ((rd_T135 l0_4 x17_2).f1), .int .i64 ((rd_T135 l0_4 x17_2).f2)]] (by rfl) rfl rfl (by (try simp only [mA_]); first | done | rfl | (simp only [List.length_drop, List.length_take]; rfl)) ?_
            with_reducible refine (impl_Dispatcher_endOf.calls a0_0 a0_1 a0_2 _ _ l0_3 _ _ l0_4 ((rd_T135 l0_4 x17_2).f0) ((rd_T135 l0_4 x17_2).f1) ((rd_T135 l0_4 x17_2).f2) t650 _ ?side1 ?side2 ?side3 ?side4 A10.out).mono ?_
            (case side1 => first | exact bC HR0_3.out HB.out | exact Kd.C_below HR0_3.out HB.out)
            (case side2 => exact HC0_3.out)
            (case side3 => first | exact bC HR0_4.out HB.out | exact Kd.C_below HR0_4.out HB.out)
            (case side4 => exact HC0_4.out)
            rintro e w24 ⟨rfl, hb⟩
            refine ⟨_, rfl, ?_⟩
            have n0_ := Aside0.mk (Kd.R_below (bR HO_3.out) hb)
            have n1_ := Aside0.mk (blk_below (bs BK647.out) hb)
            have n2_ := Aside0.mk (blk_below (bs BK649.out) hb)
            have n3_ := Aside0.mk (below_step (by repeat (first | (with_reducible first | exact bw HB.out | refine bset ?_ (by assumption) | apply below_alloc | apply pw_below_drewN | apply below_drew1) | exact HB.out)) hb)
            clear HO_3
            clear BK647
            clear BK649
            clear HB
            have HO_3 := n0_
            have BK647 := n1_
            have BK649 := n2_
            have HB := n3_
            clear n0_ n1_ n2_ n3_
            (try clear hb)
            (try clear hb2)
            (try clear hk)
            (try clear hi)
            refine hK.out _ _ ⟨(blk_cell BK649.out 0).trans rfl, (blk_cell BK649.out 1).trans rfl, (blk_cell BK649.out 2).trans rfl, (blk_cell BK647.out 0).trans rfl, (blk_cell BK647.out 1).trans rfl, (blk_cell BK647.out 2).trans rfl, (blk_cell BK647.out 3).trans rfl, (blk_cell BK647.out 4).trans rfl⟩ (fun hHeld => ?_)
            clear hK K
            refine norm_ (a' := ?_) ?_ ?_
            rotate_left
            ·show Act.put _ (some 35) _ = _
             simp only [aq_]
             rfl
            refine pup_ (i := 17) (N := some 38) (v := ?_) (a' := ?_) HT_ rfl rfl (by kernel_rfl) (fun _ _ _ h => h) (Or.inl ⟨by rfl, ?_⟩) ?_ ?_
            rotate_left
            ·intro w'
             go_simp
             with_reducible rfl
            rotate_left
            ·simp only [aq_]
             rfl
            refine pup_ (i := 18) (N := some 39) (v := ?_) (a' := ?_) HT_ rfl rfl (by kernel_rfl) (fun _ _ _ h => h) (Or.inl ⟨by rfl, ?_⟩) ?_ ?_
            rotate_left
            ·intro w'
             go_simp
             with_reducible rfl
            rotate_left
            ·simp only [aq_]
             rfl
            refine done_ (done_of HT_.out (by kernel_rfl)) ?_
            try go_wp2
            go_roundg k2
            case measure => have := HK1.out; have := HK2.out; omega
            case rel => exact ⟨(x5_2), (wrap64 (x17_2 + 1)), (by first | rfl | (simp; done) | (simp [*]; done)), (by first | rfl | (simp; done) | (simp [*]; done)), H', ⟨by have := HK1.out; have := HK2.out; omega⟩, ⟨bR HO_3.out⟩, ⟨bs BK647.out⟩, ⟨by repeat (first | (with_reducible first | exact bw HB.out | refine bset ?_ (by assumption) | apply below_alloc | apply pw_below_drewN | apply below_drew1) | exact HB.out)⟩⟩
          ·rw [if_neg c9] at H
           have c9b0 : decide (((rd_T135 l0_4 x17_2).f2) ≤ a0_2) = false := decide_eq_false c9
           clear c9
           have H' := Aside0.mk H
           clear H
           have p648 : 0 ≤ (x17_2 : Int) := of_decide_eq_true (by first | (with_reducible assumption) | assumption)
           have q648 : x17_2 < (l0_4.length : Int) := of_decide_eq_true (by first | (with_reducible assumption) | assumption)
           obtain ⟨ad648, e648, hx648_0, hx648_1, hx648_2⟩ := at_T135 HR0_4.out x17_2 p648 q648
           cases e648
           replace hx648_0 := (HB.out.cell (World.block_lt_of_cell? w _ hx648_0)).trans hx648_0
           replace hx648_1 := (HB.out.cell (World.block_lt_of_cell? w _ hx648_1)).trans hx648_1
           replace hx648_2 := (HB.out.cell (World.block_lt_of_cell? w _ hx648_2)).trans hx648_2
           replace p648 := eq_true p648
           replace q648 := eq_true q648
           try go_wp2_with (first | ((with_reducible refine gate_dst (N := 7) rfl ?_); refine box_event ?hg (N := 7) ?hd (cs := #[.int .i64 0, .int .i64 0, .int .i64 0]) (t := 135) ?hr ?_; (case hd => rfl); (case hg => rfl); (case hr => first | (go_simp; done) | (go_simp; rfl)); intro gb649 hg w25 hbox hb; have n0_ := Aside0.mk (Kd.R_below (bR HO_3.out) hb); have n1_ := Aside0.mk (blk_below (bs BK647.out) hb); have n2_ := Aside0.mk (below_step (by repeat (first | (with_reducible first | exact bw HB.out | refine bset ?_ (by assumption) | apply below_alloc | apply pw_below_drewN | apply below_drew1) | exact HB.out)) hb); have n3_ := Aside0.mk (hbox); have n4_ := Aside0.mk ((by rw [hg]; exact (below_size (by repeat (first | (with_reducible first | exact bw HB.out | refine bset ?_ (by assumption) | apply below_alloc | apply pw_below_drewN | apply below_drew1) | exact HB.out))) : w.heap.size ≤ gb649)); have n5_ := Aside0.mk ((by rw [hg]; exact (below_size (by repeat (first | (with_reducible first | exact bw HB.out | refine bset ?_ (by assumption) | apply below_alloc | apply pw_below_drewN | apply below_drew1) | exact HB.out))) : w.heap.size ≤ gb649)); have n6_ := ne_ hg BK647.out; have n7_ := en_ hg BK647.out; clear HO_3; clear BK647; clear HB; have HO_3 := n0_; have BK647 := n1_; have HB := n2_; have BK649 := n3_; have GW649 := n4_; have GE649 := n5_; have NB647_649 := n6_; have NB649_647 := n7_; clear n0_ n1_ n2_ n3_ n4_ n5_ n6_ n7_; clear hb hbox hg; have hnb26 := NB649_647.out; have hnc26 := NB647_649.out; have hcz27_0 := b3_0 BK649.out; have hcz27_1 := b3_1 BK649.out; have hcz27_2 := b3_2 BK649.out; have hfz27_0 := blk_frozen BK649.out 0; have hfz27_1 := blk_frozen BK649.out 1; have hfz27_2 := blk_frozen BK649.out 2))
           have n0_ : Aside0 (Kd.R (Kd.int .i64) 3 (((w25.setCell ⟨gb649, 0, none⟩ (.int .i64 ((rd_T135 l0_4 x17_2).f0))).setCell ⟨gb649, 1, none⟩ (.int .i64 ((rd_T135 l0_4 x17_2).f1))).setCell ⟨gb649, 2, none⟩ (.int .i64 ((rd_T135 l0_4 x17_2).f2))) w.heap.size (fun _ => True) u3 x3_1) := ⟨by (with_reducible repeat (first | apply Kd.R_alloc | apply Kd.R_drewN | apply Kd.R_drew)); exact Kd.R_mono (Kd.R_far (p := ⟨gb649, 2, none⟩) (Kd.R_far (p := ⟨gb649, 1, none⟩) (Kd.R_far (p := ⟨gb649, 0, none⟩) (Kd.R_types HO_3.out BK649.out (by decide)) (fun _ hk => hk.2) (.int .i64 ((rd_T135 l0_4 x17_2).f0))) (fun _ hk => hk.2) (.int .i64 ((rd_T135 l0_4 x17_2).f1))) (fun _ hk => hk.2) (.int .i64 ((rd_T135 l0_4 x17_2).f2))) (fun _ hk => trivial)⟩
           have n1_ : Aside0 ((((w25.setCell ⟨gb649, 0, none⟩ (.int .i64 ((rd_T135 l0_4 x17_2).f0))).setCell ⟨gb649, 1, none⟩ (.int .i64 ((rd_T135 l0_4 x17_2).f1))).setCell ⟨gb649, 2, none⟩ (.int .i64 ((rd_T135 l0_4 x17_2).f2))).heap[gb647]? = some (.cells #[.int .i64 a0_0, .int .i64 a0_1, .int .i64 a0_2, .slice A0_3 l0_3.length c0_3, .slice (some ad648) l0_4.length c0_4] 25 (0, 0))) := ⟨by (with_reducible repeat (first | refine blk_drewN ?_ _ | refine blk_drew ?_ | refine blk_alloc ?_ _)); refine blk_far ?_ NB647_649.out _; (with_reducible repeat (first | refine blk_drewN ?_ _ | refine blk_drew ?_ | refine blk_alloc ?_ _)); refine blk_far ?_ NB647_649.out _; (with_reducible repeat (first | refine blk_drewN ?_ _ | refine blk_drew ?_ | refine blk_alloc ?_ _)); refine blk_far ?_ NB647_649.out _; exact bs BK647.out⟩
           have n2_ : Aside0 ((((w25.setCell ⟨gb649, 0, none⟩ (.int .i64 ((rd_T135 l0_4 x17_2).f0))).setCell ⟨gb649, 1, none⟩ (.int .i64 ((rd_T135 l0_4 x17_2).f1))).setCell ⟨gb649, 2, none⟩ (.int .i64 ((rd_T135 l0_4 x17_2).f2))).heap[gb649]? = some (.cells #[.int .i64 ((rd_T135 l0_4 x17_2).f0), .int .i64 ((rd_T135 l0_4 x17_2).f1), .int .i64 ((rd_T135 l0_4 x17_2).f2)] 135 (0, 0))) := ⟨by (with_reducible repeat (first | refine blk_drewN ?_ _ | refine blk_drew ?_ | refine blk_alloc ?_ _)); refine blk_put (cs := #[.int .i64 ((rd_T135 l0_4 x17_2).f0), .int .i64 ((rd_T135 l0_4 x17_2).f1), .int .i64 0]) ?_ 2 _ rfl; (with_reducible repeat (first | refine blk_drewN ?_ _ | refine blk_drew ?_ | refine blk_alloc ?_ _)); refine blk_put (cs := #[.int .i64 ((rd_T135 l0_4 x17_2).f0), .int .i64 0, .int .i64 0]) ?_ 1 _ rfl; (with_reducible repeat (first | refine blk_drewN ?_ _ | refine blk_drew ?_ | refine blk_alloc ?_ _)); refine blk_put (cs := #[.int .i64 0, .int .i64 0, .int .i64 0]) ?_ 0 _ rfl; exact bs BK649.out⟩
           have n3_ : Aside0 (Below w.heap.size w (((w25.setCell ⟨gb649, 0, none⟩ (.int .i64 ((rd_T135 l0_4 x17_2).f0))).setCell ⟨gb649, 1, none⟩ (.int .i64 ((rd_T135 l0_4 x17_2).f1))).setCell ⟨gb649, 2, none⟩ (.int .i64 ((rd_T135 l0_4 x17_2).f2)))) := ⟨by repeat (first | (with_reducible first | exact bw HB.out | refine bset ?_ (by assumption) | apply below_alloc | apply pw_below_drewN | apply below_drew1) | exact HB.out)⟩
           (try clear HO_3)
           (try clear BK647)
           (try clear BK649)
           (try clear HB)
           (try simp only [setCell_drewN])
           generalize (((w25.setCell ⟨gb649, 0, none⟩ (.int .i64 ((rd_T135 l0_4 x17_2).f0))).setCell ⟨gb649, 1, none⟩ (.int .i64 ((rd_T135 l0_4 x17_2).f1))).setCell ⟨gb649, 2, none⟩ (.int .i64 ((rd_T135 l0_4 x17_2).f2))) = w28 at n0_ n1_ n2_ n3_ ⊢
           have HO_3 := n0_
           have BK647 := n1_
           have BK649 := n2_
           have HB := n3_
           clear n0_ n1_ n2_ n3_
           have n0_ := Aside0.mk (Kd.R_drew HO_3.out)
           have n1_ := Aside0.mk (blk_drew BK647.out)
           have n2_ := Aside0.mk (blk_drew BK649.out)
           have n3_ := Aside0.mk (below_drew1 HB.out)
           clear HO_3
           clear BK647
           clear BK649
           clear HB
           have HO_3 := n0_
           have BK647 := n1_
           have BK649 := n2_
           have HB := n3_
           clear n0_ n1_ n2_ n3_
           refine start_ (n := 19) (S := fun w' => w'.cell? ⟨gb649, 0, none⟩ = some (.int .i64 ((rd_T135 l0_4 x17_2).f0)) ∧ w'.cell? ⟨gb649, 1, none⟩ = some (.int .i64 ((rd_T135 l0_4 x17_2).f1)) ∧ w'.cell? ⟨gb649, 2, none⟩ = some (.int .i64 ((rd_T135 l0_4 x17_2).f2)) ∧ w'.cell? ⟨gb647, 0, none⟩ = some (.int .i64 a0_0) ∧ w'.cell? ⟨gb647, 1, none⟩ = some (.int .i64 a0_1) ∧ w'.cell? ⟨gb647, 2, none⟩ = some (.int .i64 a0_2) ∧ w'.cell? ⟨gb647, 3, none⟩ = some (.slice A0_3 l0_3.length c0_3) ∧ w'.cell? ⟨gb647, 4, none⟩ = some (.slice (some ad648) l0_4.length c0_4)) (ds := []) q100_0 (by kernel_rfl) rfl rfl ⟨(blk_cell BK649.out 0).trans rfl, (blk_cell BK649.out 1).trans rfl, (blk_cell BK649.out 2).trans rfl, (blk_cell BK647.out 0).trans rfl, (blk_cell BK647.out 1).trans rfl, (blk_cell BK647.out 2).trans rfl, (blk_cell BK647.out 3).trans rfl, (blk_cell BK647.out 4).trans rfl⟩ (fun hHeld => ?_); refine with_tabW impl_Dispatcher_running.tab9 impl_Dispatcher_running.bits9 (fun HT_ HW_ => ?_)
           generalize w28.drew = w29 at HO_3 BK647 BK649 HB hHeld ⊢
           refine pup_ (i := 0) (N := some 21) (v := ?_) (a' := ?_) HT_ rfl rfl (by kernel_rfl) (fun _ _ _ h => h) (Or.inl ⟨by rfl, ?_⟩) ?_ ?_
           rotate_left
           ·intro w'
            go_simp
            with_reducible rfl
           rotate_left
           ·simp only [aq_]
            rfl
           refine pup_ (i := 2) (N := some 23) (v := ?_) (a' := ?_) HT_ rfl rfl (by kernel_rfl) (fun _ _ _ h => h) (Or.inl ⟨by rfl, ?_⟩) ?_ ?_
           rotate_left
           ·intro w'
            go_simp
            with_reducible rfl
           rotate_left
           ·simp only [aq_]
            rfl
           refine take_ (i := 1) (N := some 22) (v := ?_) (a' := ?_) q100_3 rfl rfl (take_ofW HT_.out HW_.out (by kernel_rfl)) (fun _ _ _ h => h) (Or.inl ⟨by rfl, ?_⟩) hHeld ?_ ?_
           rotate_left
           ·rintro w' ⟨s0, s1, s2, s3, s4, s5, s6, s7⟩
            go_simp
            with_reducible rfl
           rotate_left
           ·simp only [aq_]
            rfl
           refine pup_ (i := 3) (N := some 24) (v := ?_) (a' := ?_) HT_ rfl rfl (by kernel_rfl) (fun _ _ _ h => h) (Or.inl ⟨by rfl, ?_⟩) ?_ ?_
           rotate_left
           ·intro w'
            go_simp
            with_reducible rfl
           rotate_left
           ·simp only [aq_]
            rfl
           refine pup_ (i := 4) (N := some 25) (v := ?_) (a' := ?_) HT_ rfl rfl (by kernel_rfl) (fun _ _ _ h => h) (Or.inl ⟨by rfl, ?_⟩) ?_ ?_
           rotate_left
           ·intro w'
            go_simp
            with_reducible rfl
           rotate_left
           ·simp only [aq_]
            rfl
           refine pup_ (i := 5) (N := some 26) (v := ?_) (a' := ?_) HT_ rfl rfl (by kernel_rfl) (fun _ _ _ h => h) (Or.inl ⟨by rfl, ?_⟩) ?_ ?_
           rotate_left
           ·intro w'
            go_simp
            with_reducible rfl
           rotate_left
           ·simp only [aq_]
            rfl
           refine pup_ (i := 7) (N := some 28) (v := ?_) (a' := ?_) HT_ rfl rfl (by kernel_rfl) (fun _ _ _ h => h) (Or.inl ⟨by rfl, ?_⟩) ?_ ?_
           rotate_left
           ·intro w'
            go_simp
            with_reducible rfl
           rotate_left
           ·simp only [aq_]
            rfl
           refine take_ (i := 6) (N := some 27) (v := ?_) (a' := ?_) q100_8 rfl rfl (take_ofW HT_.out HW_.out (by kernel_rfl)) (fun _ _ _ h => h) (Or.inl ⟨by rfl, ?_⟩) hHeld ?_ ?_
           rotate_left
           ·rintro w' ⟨s0, s1, s2, s3, s4, s5, s6, s7⟩
            go_simp
            with_reducible rfl
           rotate_left
           ·simp only [aq_]
            rfl
           refine take_ (i := 8) (N := some 29) (v := ?_) (a' := ?_) q100_9 rfl rfl (take_ofW HT_.out HW_.out (by kernel_rfl)) (fun _ _ _ h => h) (Or.inl ⟨by rfl, ?_⟩) hHeld ?_ ?_
           rotate_left
           ·rintro w' ⟨s0, s1, s2, s3, s4, s5, s6, s7⟩
            go_simp
            with_reducible rfl
           rotate_left
           ·simp only [aq_]
            rfl
           refine pup_ (i := 9) (N := some 30) (v := ?_) (a' := ?_) HT_ rfl rfl (by kernel_rfl) (fun _ _ _ h => h) (Or.inl ⟨by rfl, ?_⟩) ?_ ?_
           rotate_left
           ·intro w'
            go_simp
            with_reducible rfl
           rotate_left
           ·simp only [aq_]
            rfl
           refine pup_ (i := 10) (N := some 31) (v := ?_) (a' := ?_) HT_ rfl rfl (by kernel_rfl) (fun _ _ _ h => h) (Or.inl ⟨by rfl, ?_⟩) ?_ ?_
           rotate_left
           ·intro w'
            go_simp
            with_reducible rfl
           rotate_left
           ·simp only [aq_]
            rfl
           refine pup_ (i := 11) (N := some 32) (v := ?_) (a' := ?_) HT_ rfl rfl (by kernel_rfl) (fun _ _ _ h => h) (Or.inl ⟨by rfl, ?_⟩) ?_ ?_
           rotate_left
           ·intro w'
            go_simp
            with_reducible rfl
           rotate_left
           ·simp only [aq_]
            rfl
           refine skp_ HT_ 12 (some 33) rfl rfl (by kernel_rfl) (fun _ _ _ h => h) (by rfl) (by simp only [aq_]; rfl) ?_
           refine skp_ HT_ 13 (some 34) rfl rfl (by kernel_rfl) (fun _ _ _ h => h) (by rfl) (by simp only [aq_]; rfl) ?_
           refine skp_ HT_ 14 (some 35) rfl rfl (by kernel_rfl) (fun _ _ _ h => h) (by rfl) (by simp only [aq_]; rfl) ?_
           refine skp_ HT_ 15 (some 36) rfl rfl (by kernel_rfl) (fun _ _ _ h => h) (by rfl) (by simp only [aq_]; rfl) ?_
           refine skp_ HT_ 16 (some 37) rfl rfl (by kernel_rfl) (fun _ _ _ h => h) (by rfl) (by simp only [aq_]; rfl) ?_
           refine skp_ HT_ 17 (some 38) rfl rfl (by kernel_rfl) (fun _ _ _ h => h) (by rfl) (by simp only [aq_]; rfl) ?_
           refine pup_ (i := 18) (N := some 39) (v := ?_) (a' := ?_) HT_ rfl rfl (by kernel_rfl) (fun _ _ _ h => h) (Or.inl ⟨by rfl, ?_⟩) ?_ ?_
           rotate_left
           ·intro w'
            go_simp
            with_reducible rfl
           rotate_left
           ·simp only [aq_]
            rfl
           refine done_ (done_of HT_.out (by kernel_rfl)) ?_
           try go_wp2
           go_roundg k2
           case measure => have := HK1.out; have := HK2.out; omega
           case rel => exact ⟨(x5_2), (wrap64 (x17_2 + 1)), (by first | rfl | (simp; done) | (simp [*]; done)), (by first | rfl | (simp; done) | (simp [*]; done)), H', ⟨by have := HK1.out; have := HK2.out; omega⟩, ⟨bR HO_3.out⟩, ⟨bs BK647.out⟩, ⟨by repeat (first | (with_reducible first | exact bw HB.out | refine bset ?_ (by assumption) | apply below_alloc | apply pw_below_drewN | apply below_drew1) | exact HB.out)⟩⟩
         ·rw [if_neg c8] at H
          have c8b0 : (((rd_T135 l0_4 x17_2).f1) == x4_1) = false := beq_eq_false_iff_ne.mpr c8
          have c8b1 : (((rd_T135 l0_4 x17_2).f1) != x4_1) = true := bne_iff_ne.mpr c8
          have H' := Aside0.mk H
          clear H
          have p648 : 0 ≤ (x17_2 : Int) := of_decide_eq_true (by first | (with_reducible assumption) | assumption)
          have q648 : x17_2 < (l0_4.length : Int) := of_decide_eq_true (by first | (with_reducible assumption) | assumption)
          obtain ⟨ad648, e648, hx648_0, hx648_1, hx648_2⟩ := at_T135 HR0_4.out x17_2 p648 q648
          cases e648
          replace hx648_0 := (HB.out.cell (World.block_lt_of_cell? w _ hx648_0)).trans hx648_0
          replace hx648_1 := (HB.out.cell (World.block_lt_of_cell? w _ hx648_1)).trans hx648_1
          replace hx648_2 := (HB.out.cell (World.block_lt_of_cell? w _ hx648_2)).trans hx648_2
          replace p648 := eq_true p648
          replace q648 := eq_true q648
          try go_wp2_with (first | ((with_reducible refine gate_dst (N := 7) rfl ?_); refine box_event ?hg (N := 7) ?hd (cs := #[.int .i64 0, .int .i64 0, .int .i64 0]) (t := 135) ?hr ?_; (case hd => rfl); (case hg => rfl); (case hr => first | (go_simp; done) | (go_simp; rfl)); intro gb649 hg w30 hbox hb; have n0_ := Aside0.mk (Kd.R_below (bR HO_3.out) hb); have n1_ := Aside0.mk (blk_below (bs BK647.out) hb); have n2_ := Aside0.mk (below_step (by repeat (first | (with_reducible first | exact bw HB.out | refine bset ?_ (by assumption) | apply below_alloc | apply pw_below_drewN | apply below_drew1) | exact HB.out)) hb); have n3_ := Aside0.mk (hbox); have n4_ := Aside0.mk ((by rw [hg]; exact (below_size (by repeat (first | (with_reducible first | exact bw HB.out | refine bset ?_ (by assumption) | apply below_alloc | apply pw_below_drewN | apply below_drew1) | exact HB.out))) : w.heap.size ≤ gb649)); have n5_ := Aside0.mk ((by rw [hg]; exact (below_size (by repeat (first | (with_reducible first | exact bw HB.out | refine bset ?_ (by assumption) | apply below_alloc | apply pw_below_drewN | apply below_drew1) | exact HB.out))) : w.heap.size ≤ gb649)); have n6_ := ne_ hg BK647.out; have n7_ := en_ hg BK647.out; clear HO_3; clear BK647; clear HB; have HO_3 := n0_; have BK647 := n1_; have HB := n2_; have BK649 := n3_; have GW649 := n4_; have GE649 := n5_; have NB647_649 := n6_; have NB649_647 := n7_; clear n0_ n1_ n2_ n3_ n4_ n5_ n6_ n7_; clear hb hbox hg; have hnb31 := NB649_647.out; have hnc31 := NB647_649.out; have hcz32_0 := b3_0 BK649.out; have hcz32_1 := b3_1 BK649.out; have hcz32_2 := b3_2 BK649.out; have hfz32_0 := blk_frozen BK649.out 0; have hfz32_1 := blk_frozen BK649.out 1; have hfz32_2 := blk_frozen BK649.out 2))
          have n0_ : Aside0 (Kd.R (Kd.int .i64) 3 (((w30.setCell ⟨gb649, 0, none⟩ (.int .i64 ((rd_T135 l0_4 x17_2).f0))).setCell ⟨gb649, 1, none⟩ (.int .i64 ((rd_T135 l0_4 x17_2).f1))).setCell ⟨gb649, 2, none⟩ (.int .i64 ((rd_T135 l0_4 x17_2).f2))) w.heap.size (fun _ => True) u3 x3_1) := ⟨by (with_reducible repeat (first | apply Kd.R_alloc | apply Kd.R_drewN | apply Kd.R_drew)); exact Kd.R_mono (Kd.R_far (p := ⟨gb649, 2, none⟩) (Kd.R_far (p := ⟨gb649, 1, none⟩) (Kd.R_far (p := ⟨gb649, 0, none⟩) (Kd.R_types HO_3.out BK649.out (by decide)) (fun _ hk => hk.2) (.int .i64 ((rd_T135 l0_4 x17_2).f0))) (fun _ hk => hk.2) (.int .i64 ((rd_T135 l0_4 x17_2).f1))) (fun _ hk => hk.2) (.int .i64 ((rd_T135 l0_4 x17_2).f2))) (fun _ hk => trivial)⟩
          have n1_ : Aside0 ((((w30.setCell ⟨gb649, 0, none⟩ (.int .i64 ((rd_T135 l0_4 x17_2).f0))).setCell ⟨gb649, 1, none⟩ (.int .i64 ((rd_T135 l0_4 x17_2).f1))).setCell ⟨gb649, 2, none⟩ (.int .i64 ((rd_T135 l0_4 x17_2).f2))).heap[gb647]? = some (.cells #[.int .i64 a0_0, .int .i64 a0_1, .int .i64 a0_2, .slice A0_3 l0_3.length c0_3, .slice (some ad648) l0_4.length c0_4] 25 (0, 0))) := ⟨by (with_reducible repeat (first | refine blk_drewN ?_ _ | refine blk_drew ?_ | refine blk_alloc ?_ _)); refine blk_far ?_ NB647_649.out _; (with_reducible repeat (first | refine blk_drewN ?_ _ | refine blk_drew ?_ | refine blk_alloc ?_ _)); refine blk_far ?_ NB647_649.out _; (with_reducible repeat (first | refine blk_drewN ?_ _ | refine blk_drew ?_ | refine blk_alloc ?_ _)); refine blk_far ?_ NB647_649.out _; exact bs BK647.out⟩
          have n2_ : Aside0 ((((w30.setCell ⟨gb649, 0, none⟩ (.int .i64 ((rd_T135 l0_4 x17_2).f0))).setCell ⟨gb649, 1, none⟩ (.int .i64 ((rd_T135 l0_4 x17_2).f1))).setCell ⟨gb649, 2, none⟩ (.int .i64 ((rd_T135 l0_4 x17_2).f2))).heap[gb649]? = some (.cells #[.int .i64 ((rd_T135 l0_4 x17_2).f0), .int .i64 ((rd_T135 l0_4 x17_2).f1), .int .i64 ((rd_T135 l0_4 x17_2).f2)] 135 (0, 0))) := ⟨by (with_reducible repeat (first | refine blk_drewN ?_ _ | refine blk_drew ?_ | refine blk_alloc ?_ _)); refine blk_put (cs := #[.int .i64 ((rd_T135 l0_4 x17_2).f0), .int .i64 ((rd_T135 l0_4 x17_2).f1), .int .i64 0]) ?_ 2 _ rfl; (with_reducible repeat (first | refine blk_drewN ?_ _ | refine blk_drew ?_ | refine blk_alloc ?_ _)); refine blk_put (cs := #[.int .i64 ((rd_T135 l0_4 x17_2).f0), .int .i64 0, .int .i64 0]) ?_ 1 _ rfl; (with_reducible repeat (first | refine blk_drewN ?_ _ | refine blk_drew ?_ | refine blk_alloc ?_ _)); refine blk_put (cs := #[.int .i64 0, .int .i64 0, .int .i64 0]) ?_ 0 _ rfl; exact bs BK649.out⟩
          have n3_ : Aside0 (Below w.heap.size w (((w30.setCell ⟨gb649, 0, none⟩ (.int .i64 ((rd_T135 l0_4 x17_2).f0))).setCell ⟨gb649, 1, none⟩ (.int .i64 ((rd_T135 l0_4 x17_2).f1))).setCell ⟨gb649, 2, none⟩ (.int .i64 ((rd_T135 l0_4 x17_2).f2)))) := ⟨by repeat (first | (with_reducible first | exact bw HB.out | refine bset ?_ (by assumption) | apply below_alloc | apply pw_below_drewN | apply below_drew1) | exact HB.out)⟩
          (try clear HO_3)
          (try clear BK647)
          (try clear BK649)
          (try clear HB)
          (try simp only [setCell_drewN])
          generalize (((w30.setCell ⟨gb649, 0, none⟩ (.int .i64 ((rd_T135 l0_4 x17_2).f0))).setCell ⟨gb649, 1, none⟩ (.int .i64 ((rd_T135 l0_4 x17_2).f1))).setCell ⟨gb649, 2, none⟩ (.int .i64 ((rd_T135 l0_4 x17_2).f2))) = w33 at n0_ n1_ n2_ n3_ ⊢
          have HO_3 := n0_
          have BK647 := n1_
          have BK649 := n2_
          have HB := n3_
          clear n0_ n1_ n2_ n3_
          have n0_ := Aside0.mk (Kd.R_drew HO_3.out)
          have n1_ := Aside0.mk (blk_drew BK647.out)
          have n2_ := Aside0.mk (blk_drew BK649.out)
          have n3_ := Aside0.mk (below_drew1 HB.out)
          clear HO_3
          clear BK647
          clear BK649
          clear HB
          have HO_3 := n0_
          have BK647 := n1_
          have BK649 := n2_
          have HB := n3_
          clear n0_ n1_ n2_ n3_
          refine start_ (n := 19) (S := fun w' => w'.cell? ⟨gb649, 0, none⟩ = some (.int .i64 ((rd_T135 l0_4 x17_2).f0)) ∧ w'.cell? ⟨gb649, 1, none⟩ = some (.int .i64 ((rd_T135 l0_4 x17_2).f1)) ∧ w'.cell? ⟨gb649, 2, none⟩ = some (.int .i64 ((rd_T135 l0_4 x17_2).f2))) (ds := []) q100_0 (by kernel_rfl) rfl rfl ⟨(blk_cell BK649.out 0).trans rfl, (blk_cell BK649.out 1).trans rfl, (blk_cell BK649.out 2).trans rfl⟩ (fun hHeld => ?_); refine with_tabW impl_Dispatcher_running.tab9 impl_Dispatcher_running.bits9 (fun HT_ HW_ => ?_)
          generalize w33.drew = w34 at HO_3 BK647 BK649 HB hHeld ⊢
          refine pup_ (i := 0) (N := some 21) (v := ?_) (a' := ?_) HT_ rfl rfl (by kernel_rfl) (fun _ _ _ h => h) (Or.inl ⟨by rfl, ?_⟩) ?_ ?_
          rotate_left
          ·intro w'
           go_simp
           with_reducible rfl
          rotate_left
          ·simp only [aq_]
           rfl
          refine pup_ (i := 2) (N := some 23) (v := ?_) (a' := ?_) HT_ rfl rfl (by kernel_rfl) (fun _ _ _ h => h) (Or.inl ⟨by rfl, ?_⟩) ?_ ?_
          rotate_left
          ·intro w'
           go_simp
           with_reducible rfl
          rotate_left
          ·simp only [aq_]
           rfl
          refine take_ (i := 1) (N := some 22) (v := ?_) (a' := ?_) q100_3 rfl rfl (take_ofW HT_.out HW_.out (by kernel_rfl)) (fun _ _ _ h => h) (Or.inl ⟨by rfl, ?_⟩) hHeld ?_ ?_
          rotate_left
          ·rintro w' ⟨s0, s1, s2⟩
           go_simp
           with_reducible rfl
          rotate_left
          ·simp only [aq_]
           rfl
          refine pup_ (i := 3) (N := some 24) (v := ?_) (a' := ?_) HT_ rfl rfl (by kernel_rfl) (fun _ _ _ h => h) (Or.inl ⟨by rfl, ?_⟩) ?_ ?_
          rotate_left
          ·intro w'
           go_simp
           with_reducible rfl
          rotate_left
          ·simp only [aq_]
           rfl
          refine pup_ (i := 4) (N := some 25) (v := ?_) (a' := ?_) HT_ rfl rfl (by kernel_rfl) (fun _ _ _ h => h) (Or.inl ⟨by rfl, ?_⟩) ?_ ?_
          rotate_left
          ·intro w'
           go_simp
           with_reducible rfl
          rotate_left
          ·simp only [aq_]
           rfl
          refine skp_ HT_ 5 (some 26) rfl rfl (by kernel_rfl) (fun _ _ _ h => h) (by rfl) (by simp only [aq_]; rfl) ?_
          refine skp_ HT_ 6 (some 27) rfl rfl (by kernel_rfl) (fun _ _ _ h => h) (by rfl) (by simp only [aq_]; rfl) ?_
          refine skp_ HT_ 7 (some 28) rfl rfl (by kernel_rfl) (fun _ _ _ h => h) (by rfl) (by simp only [aq_]; rfl) ?_
          refine skp_ HT_ 8 (some 29) rfl rfl (by kernel_rfl) (fun _ _ _ h => h) (by rfl) (by simp only [aq_]; rfl) ?_
          refine skp_ HT_ 9 (some 30) rfl rfl (by kernel_rfl) (fun _ _ _ h => h) (by rfl) (by simp only [aq_]; rfl) ?_
          refine pup_ (i := 10) (N := some 31) (v := ?_) (a' := ?_) HT_ rfl rfl (by kernel_rfl) (fun _ _ _ h => h) (Or.inl ⟨by rfl, ?_⟩) ?_ ?_
          rotate_left
          ·intro w'
           go_simp
           with_reducible rfl
          rotate_left
          ·simp only [aq_]
           rfl
          refine pup_ (i := 11) (N := some 32) (v := ?_) (a' := ?_) HT_ rfl rfl (by kernel_rfl) (fun _ _ _ h => h) (Or.inl ⟨by rfl, ?_⟩) ?_ ?_
          rotate_left
          ·intro w'
           go_simp
           with_reducible rfl
          rotate_left
          ·simp only [aq_]
           rfl
          refine skp_ HT_ 12 (some 33) rfl rfl (by kernel_rfl) (fun _ _ _ h => h) (by rfl) (by simp only [aq_]; rfl) ?_
          refine skp_ HT_ 13 (some 34) rfl rfl (by kernel_rfl) (fun _ _ _ h => h) (by rfl) (by simp only [aq_]; rfl) ?_
          refine skp_ HT_ 14 (some 35) rfl rfl (by kernel_rfl) (fun _ _ _ h => h) (by rfl) (by simp only [aq_]; rfl) ?_
          refine skp_ HT_ 15 (some 36) rfl rfl (by kernel_rfl) (fun _ _ _ h => h) (by rfl) (by simp only [aq_]; rfl) ?_
          refine skp_ HT_ 16 (some 37) rfl rfl (by kernel_rfl) (fun _ _ _ h => h) (by rfl) (by simp only [aq_]; rfl) ?_
          refine skp_ HT_ 17 (some 38) rfl rfl (by kernel_rfl) (fun _ _ _ h => h) (by rfl) (by simp only [aq_]; rfl) ?_
          refine pup_ (i := 18) (N := some 39) (v := ?_) (a' := ?_) HT_ rfl rfl (by kernel_rfl) (fun _ _ _ h => h) (Or.inl ⟨by rfl, ?_⟩) ?_ ?_
          rotate_left
          ·intro w'
           go_simp
           with_reducible rfl
          rotate_left
          ·simp only [aq_]
           rfl
          refine done_ (done_of HT_.out (by kernel_rfl)) ?_
          try go_wp2
          go_roundg k2
          case measure => have := HK1.out; have := HK2.out; omega
          case rel => exact ⟨(x5_2), (wrap64 (x17_2 + 1)), (by first | rfl | (simp; done) | (simp [*]; done)), (by first | rfl | (simp; done) | (simp [*]; done)), H', ⟨by have := HK1.out; have := HK2.out; omega⟩, ⟨bR HO_3.out⟩, ⟨bs BK647.out⟩, ⟨by repeat (first | (with_reducible first | exact bw HB.out | refine bset ?_ (by assumption) | apply below_alloc | apply pw_below_drewN | apply below_drew1) | exact HB.out)⟩⟩
        ·rw [if_neg c7] at H
         exact absurd H (by simp)
       ·rw [if_neg c6] at H
        exact absurd H (by simp)
      ·rw [if_neg c5] at H
       have c5b0 : decide (x17_2 < (l0_4.length : Int)) = false := decide_eq_false c5
       clear c5
       by_cases c35 : x3_1.length < 17592186044416
       ·rw [if_pos c35] at H
        have LMc35 := Aside0.mk c35
        clear c35
        obtain ⟨y651, hy651⟩ : ∃ y_ : List Int, y_ = (x3_1 ++ [x5_2]) := ⟨_, rfl⟩
        replace H : (impl_Dispatcher_running.l0 k2 y651 (wrap64 (x4_1 + 1)) a0_0 a0_1 a0_2 l0_3 l0_4) = some r := by first | (rw [hy651]; with_reducible exact H) | (have H2_ := (Option.bind_some _ _).symm.trans H; rw [hy651]; with_reducible exact H2_) | (have H2_ := (Option.bind_some _ _).symm.trans H; with_reducible exact H2_) | with_reducible exact H | (rw [hy651]; exact H) | exact H
        have Ny651 := Aside0.mk hy651
        clear hy651
        have H' := Aside0.mk H
        clear H
        go_wp2_with (first | ((with_reducible refine gate_builtin (b := .append) (xs := #[.tmp 43, .tmp 45]) rfl ?_); at_builtin; refine Kd.R_append (Kd.int .i64) (w0 := w) w.heap.size rfl (.tmp 43) (.tmp 45) 61 3 (.int .i64 0) 8 rfl Try.underlying61 info3 rfl (by decide) (by omega) u3 x3_1 x5_2 [.int .i64 x5_2] (fun _ => True) (fun _ => False) rfl rfl ?aP (fun _ hk => hk.elim) ?aF ?aO ?aB ?aS ?aL ?_; (case aP => exact rfl); (case aB => exact (by repeat (first | (with_reducible first | exact bw HB.out | refine bset ?_ (by assumption) | apply below_alloc | apply pw_below_drewN | apply below_drew1) | exact HB.out))); (case aF => exact (fun _ _ => trivial)); (case aO => exact (bR HO_3.out)); (case aS => exact (below_size (by repeat (first | (with_reducible first | exact bw HB.out | refine bset ?_ (by assumption) | apply below_alloc | apply pw_below_drewN | apply below_drew1) | exact HB.out)))); (case aL => have := LMc35.out; omega); intro v652 w36 ho hb hg hat; rw [← Ny651.out] at ho; have n0_ := Aside0.mk (blk_grown (bs BK647.out) hg (Kd.R_ne HO_3.out BK647.out (by decide))); have n1_ := Aside0.mk (hb); have n2_ := Aside0.mk (ho); clear BK647; clear HB; clear HO_3; have BK647 := n0_; have HB := n1_; have HO653 := n2_; clear n0_ n1_ n2_; clear ho hb hg hat))
        go_roundg k2
        case measure => have := HK1.out; have := HK2.out; omega
        case rel => exact ⟨(y651), (wrap64 (x4_1 + 1)), (by first | rfl | (simp; done) | (simp [*]; done)), H', ⟨by have := HK1.out; have := HK2.out; omega⟩, ⟨bR HO653.out⟩, ⟨bs BK647.out⟩, ⟨by repeat (first | (with_reducible first | exact bw HB.out | refine bset ?_ (by assumption) | apply below_alloc | apply pw_below_drewN | apply below_drew1) | exact HB.out)⟩⟩
       ·rw [if_neg c35] at H
        exact absurd H (by simp)
   ·rw [if_neg c3] at H
    have c3b0 : decide (x4_1 < a0_0) = false := decide_eq_false c3
    clear c3
    obtain rfl := Option.some.inj H
    have hcz37_0 := b5_0 BK647.out
    have hcz37_1 := b5_1 BK647.out
    have hcz37_2 := b5_2 BK647.out
    have hcz37_3 := b5_3 BK647.out
    have hcz37_4 := b5_4 BK647.out
    have hfz37_0 := blk_frozen BK647.out 0
    have hfz37_1 := blk_frozen BK647.out 1
    have hfz37_2 := blk_frozen BK647.out 2
    have hfz37_3 := blk_frozen BK647.out 3
    have hfz37_4 := blk_frozen BK647.out 4
    go_wp2
    go_ret
    exact ⟨_, by first | rfl | (simp [errW_none, errW_some] <;> rfl) | (simp [*, errW_none, errW_some] <;> rfl), by (with_reducible repeat (first | apply Kd.R_alloc | apply Kd.R_drewN | apply Kd.R_drew)); exact HO_3.out, by repeat (first | (with_reducible first | exact bw HB.out | refine bset ?_ (by assumption) | apply below_alloc | apply pw_below_drewN | apply below_drew1) | exact HB.out)⟩

/-! ### impl_RunningJobs: function 45 -/
def impl_RunningJobs.f (k : Nat) (a0_0 : Int) (a0_1 : Int) (a0_2 : Int) (l0_3 : List (S137)) (l0_4 : List (S135)) : Option (List Int × Bool) := (impl_IsDispatcher.f k a0_0 a0_1 a0_2 l0_3 l0_4).bind fun t655 => (if t655 = true then ((impl_Dispatcher_running.f k a0_0 a0_1 a0_2 l0_3 l0_4).bind fun t656 => (some (t656, true))) else (some (([] : List Int), false)))
theorem impl_RunningJobs.mono : ∀ a0 a1 a2 a3 a4 k, LeO (impl_RunningJobs.f k a0 a1 a2 a3 a4) (impl_RunningJobs.f (k + 1) a0 a1 a2 a3 a4) := by
 intro a0 a1 a2 a3 a4 k
 unfold impl_RunningJobs.f
 repeat' first
   | (with_reducible exact impl_Dispatcher_running.mono _ _ _ _ _ _)
   | (with_reducible exact impl_IsDispatcher.mono _ _ _ _ _ _)
   | (with_reducible exact LeO.refl _)
   | (with_reducible exact LeO.none _)
   | (with_reducible refine LeO.ite ?_ ?_)
   | (with_reducible refine LeO.bind ?_ (fun _ => ?_))
   | exact impl_Dispatcher_running.mono _ _ _ _ _ _
   | exact impl_IsDispatcher.mono _ _ _ _ _ _
   | exact LeO.none _
   | refine LeO.ite ?_ ?_
   | refine LeO.bind ?_ (fun _ => ?_)
set_option maxHeartbeats 8000000 in
set_option maxRecDepth 100000 in
theorem impl_RunningJobs.calls (k : Nat) (a0_0 : Int) (a0_1 : Int) (a0_2 : Int) (A0_3 : Option Addr) (c0_3 : Nat) (l0_3 : List (S137)) (A0_4 : Option Addr) (c0_4 : Nat) (l0_4 : List (S135)) (r1 : List Int) (r2 : Bool) (w : World) (hr0_3 : Kd.C k137 w A0_3 l0_3.length l0_3) (hc0_3 : l0_3.length ≤ c0_3) (hr0_4 : Kd.C k135 w A0_4 l0_4.length l0_4) (hc0_4 : l0_4.length ≤ c0_4) (h : impl_RunningJobs.f k a0_0 a0_1 a0_2 l0_3 l0_4 = some (r1, r2)) :
  Calls Try.prog 45 #[.agg #[.int .i64 a0_0, .int .i64 a0_1, .int .i64 a0_2, .slice A0_3 l0_3.length c0_3, .slice A0_4 l0_4.length c0_4]] w fun e w' => ∃ v0_ : Value, e = .returned (.tuple #[v0_, .bool r2]) ∧ Kd.R (Kd.int .i64) 3 w' w.heap.size (fun _ => True) v0_ r1 ∧ Below w.heap.size w w' := by
 have hu25 := Try.underlying25
 have HR0_3 := Aside0.mk hr0_3
 have HC0_3 := Aside0.mk hc0_3
 clear hr0_3 hc0_3
 have HR0_4 := Aside0.mk hr0_4
 have HC0_4 := Aside0.mk hc0_4
 clear hr0_4 hc0_4
 have HB := Aside0.mk (Below.refl w.heap.size w)
 have H : ((impl_IsDispatcher.f k a0_0 a0_1 a0_2 l0_3 l0_4).bind fun t655 => (if t655 = true then ((impl_Dispatcher_running.f k a0_0 a0_1 a0_2 l0_3 l0_4).bind fun t656 => (some (t656, true))) else (some (([] : List Int), false)))) = some (r1, r2) := h
 clear h
 replace H := Option.bind_eq_some_iff.mp H
 obtain ⟨t655, A20, H⟩ := H
 replace H : (if t655 = true then ((impl_Dispatcher_running.f k a0_0 a0_1 a0_2 l0_3 l0_4).bind fun t656 => (some (t656, true))) else (some (([] : List Int), false))) = some (r1, r2) := H
 have A2 := Aside0.mk A20
 clear A20
 by_cases c3 : t655 = true
 ·subst c3
  have H1 : ((impl_Dispatcher_running.f k a0_0 a0_1 a0_2 l0_3 l0_4).bind fun t656 => (some (t656, true))) = some (r1, r2) := by rw [if_pos rfl] at H; exact H
  clear H
  have H := H1
  clear H1
  replace H := Option.bind_eq_some_iff.mp H
  obtain ⟨t656, A40, H⟩ := H
  replace H : (some (t656, true)) = some (r1, r2) := H
  have A4 := Aside0.mk A40
  clear A40
  simp only [Option.some.injEq, Prod.mk.injEq] at H
  obtain ⟨rfl, rfl⟩ := H
  go_enter Try.func45, Try.ntmps45
  go_wp2_with (first | ((with_reducible refine gate_dst (N := 1) rfl ?_); refine box_event ?hg (N := 1) ?hd (cs := #[.int .i64 a0_0, .int .i64 a0_1, .int .i64 a0_2, .slice A0_3 l0_3.length c0_3, .slice A0_4 l0_4.length c0_4]) (t := 25) ?hr ?_; (case hd => rfl); (case hg => rfl); (case hr => first | (go_simp; done) | (go_simp; rfl)); intro gb654 hg w5 hbox hb; have n0_ := Aside0.mk (below_step (bw HB.out) hb); have n1_ := Aside0.mk (hbox); have n2_ := ge_ hg HB.out; have n3_ := ge_ hg HB.out; clear HB; have HB := n0_; have BK654 := n1_; have GW654 := n2_; have GE654 := n3_; clear n0_ n1_ n2_ n3_; clear hb hbox hg; have hcz6_0 := b5_0 BK654.out; have hcz6_1 := b5_1 BK654.out; have hcz6_2 := b5_2 BK654.out; have hcz6_3 := b5_3 BK654.out; have hcz6_4 := b5_4 BK654.out; have hfz6_0 := blk_frozen BK654.out 0; have hfz6_1 := blk_frozen BK654.out 1; have hfz6_2 := blk_frozen BK654.out 2; have hfz6_3 := blk_frozen BK654.out 3; have hfz6_4 := blk_frozen BK654.out 4) | ((with_reducible refine gate_callee (f := 77) rfl ?_); refine goesL_ (some 5) rfl rfl Try.func77 (by kernel_rfl) rfl #[.agg #[.int .i64 a0_0, .int .i64 a0_1, .int .i64 a0_2, .slice A0_3 l0_3.length c0_3, .slice A0_4 l0_4.length c0_4]] rfl (by (try simp only [mA_]); first | done | rfl | (simp only [List.length_drop, List.length_take]; rfl)) ?_; (with_reducible refine (impl_IsDispatcher.calls k a0_0 a0_1 a0_2 _ _ l0_3 _ _ l0_4 true _ ?side1 ?side2 ?side3 ?side4 A2.out).mono ?_); (case side1 => first | exact bC HR0_3.out HB.out | exact Kd.C_below HR0_3.out HB.out); (case side2 => exact HC0_3.out); (case side3 => first | exact bC HR0_4.out HB.out | exact Kd.C_below HR0_4.out HB.out); (case side4 => exact HC0_4.out); rintro e w7 ⟨rfl, hb⟩; refine ⟨_, rfl, ?_⟩; have n0_ := Aside0.mk (blk_below (bs BK654.out) hb); have n1_ := Aside0.mk (below_step (by repeat (first | (with_reducible first | exact bw HB.out | refine bset ?_ (by assumption) | apply below_alloc | apply pw_below_drewN | apply below_drew1) | exact HB.out)) hb); clear BK654; clear HB; have BK654 := n0_; have HB := n1_; clear n0_ n1_; (try clear hb); (try clear hb2); (try clear hk); (try clear hi); have hcz8_0 := b5_0 BK654.out; have hcz8_1 := b5_1 BK654.out; have hcz8_2 := b5_2 BK654.out; have hcz8_3 := b5_3 BK654.out; have hcz8_4 := b5_4 BK654.out; have hfz8_0 := blk_frozen BK654.out 0; have hfz8_1 := blk_frozen BK654.out 1; have hfz8_2 := blk_frozen BK654.out 2; have hfz8_3 := blk_frozen BK654.out 3; have hfz8_4 := blk_frozen BK654.out 4) | ((with_reducible refine gate_callee (f := 100) rfl ?_); refine goesL_ (some 8) rfl rfl Try.func100 (by kernel_rfl) rfl #[.agg #[.int .i64 a0_0, .int .i64 a0_1, .int .i64 a0_2, .slice A0_3 l0_3.length c0_3, .slice A0_4 l0_4.length c0_4]] rfl (by (try simp only [mA_]); first | done | rfl | (simp only [List.length_drop, List.length_take]; rfl)) ?_; (with_reducible refine (impl_Dispatcher_running.calls k a0_0 a0_1 a0_2 _ _ l0_3 _ _ l0_4 t656 _ ?side1 ?side2 ?side3 ?side4 A4.out).mono ?_); (case side1 => first | exact bC HR0_3.out HB.out | exact Kd.C_below HR0_3.out HB.out); (case side2 => exact HC0_3.out); (case side3 => first | exact bC HR0_4.out HB.out | exact Kd.C_below HR0_4.out HB.out); (case side4 => exact HC0_4.out); rintro e w9 ⟨v657, rfl, ho0, hb⟩; refine ⟨_, rfl, ?_⟩; have n0_ := Aside0.mk (Kd.R_lower ho0 (below_size (by repeat (first | (with_reducible first | exact bw HB.out | refine bset ?_ (by assumption) | apply below_alloc | apply pw_below_drewN | apply below_drew1) | exact HB.out)))); have n1_ := Aside0.mk (blk_below (bs BK654.out) hb); have n2_ := Aside0.mk (below_step (by repeat (first | (with_reducible first | exact bw HB.out | refine bset ?_ (by assumption) | apply below_alloc | apply pw_below_drewN | apply below_drew1) | exact HB.out)) hb); clear BK654; clear HB; have HO658 := n0_; have BK654 := n1_; have HB := n2_; clear n0_ n1_ n2_; (try clear hb); (try clear hb2); (try clear hk); (try clear hi); (try clear ho0)))
  go_ret2
  exact ⟨_, by first | rfl | (simp [errW_none, errW_some] <;> rfl) | (simp [*, errW_none, errW_some] <;> rfl), by (with_reducible repeat (first | apply Kd.R_alloc | apply Kd.R_drewN | apply Kd.R_drew)); exact HO658.out, by repeat (first | (with_reducible first | exact bw HB.out | refine bset ?_ (by assumption) | apply below_alloc | apply pw_below_drewN | apply below_drew1) | exact HB.out)⟩
 ·replace c3 := Bool.eq_false_iff.mpr c3
  subst c3
  have H1 : (some (([] : List Int), false)) = some (r1, r2) := by rw [if_neg (show ¬ (false = true) by decide)] at H; exact H
  clear H
  have H := H1
  clear H1
  simp only [Option.some.injEq, Prod.mk.injEq] at H
  obtain ⟨rfl, rfl⟩ := H
  go_enter Try.func45, Try.ntmps45
  go_wp2_with (first | ((with_reducible refine gate_dst (N := 1) rfl ?_); refine box_event ?hg (N := 1) ?hd (cs := #[.int .i64 a0_0, .int .i64 a0_1, .int .i64 a0_2, .slice A0_3 l0_3.length c0_3, .slice A0_4 l0_4.length c0_4]) (t := 25) ?hr ?_; (case hd => rfl); (case hg => rfl); (case hr => first | (go_simp; done) | (go_simp; rfl)); intro gb654 hg w10 hbox hb; have n0_ := Aside0.mk (below_step (bw HB.out) hb); have n1_ := Aside0.mk (hbox); have n2_ := ge_ hg HB.out; have n3_ := ge_ hg HB.out; clear HB; have HB := n0_; have BK654 := n1_; have GW654 := n2_; have GE654 := n3_; clear n0_ n1_ n2_ n3_; clear hb hbox hg; have hcz11_0 := b5_0 BK654.out; have hcz11_1 := b5_1 BK654.out; have hcz11_2 := b5_2 BK654.out; have hcz11_3 := b5_3 BK654.out; have hcz11_4 := b5_4 BK654.out; have hfz11_0 := blk_frozen BK654.out 0; have hfz11_1 := blk_frozen BK654.out 1; have hfz11_2 := blk_frozen BK654.out 2; have hfz11_3 := blk_frozen BK654.out 3; have hfz11_4 := blk_frozen BK654.out 4) | ((with_reducible refine gate_callee (f := 77) rfl ?_); refine goesL_ (some 5) rfl rfl Try.func77 (by kernel_rfl) rfl #[.agg #[.int .i64 a0_0, .int .i64 a0_1, .int .i64 a0_2, .slice A0_3 l0_3.length c0_3, .slice A0_4 l0_4.length c0_4]] rfl (by (try simp only [mA_]); first | done | rfl | (simp only [List.length_drop, List.length_take]; rfl)) ?_; (with_reducible refine (impl_IsDispatcher.calls k a0_0 a0_1 a0_2 _ _ l0_3 _ _ l0_4 false _ ?side1 ?side2 ?side3 ?side4 A2.out).mono ?_); (case side1 => first | exact bC HR0_3.out HB.out | exact Kd.C_below HR0_3.out HB.out); (case side2 => exact HC0_3.out); (case side3 => first | exact bC HR0_4.out HB.out | exact Kd.C_below HR0_4.out HB.out); (case side4 => exact HC0_4.out); rintro e w12 ⟨rfl, hb⟩; refine ⟨_, rfl, ?_⟩; have n0_ := Aside0.mk (blk_below (bs BK654.out) hb); have n1_ := Aside0.mk (below_step (by repeat (first | (with_reducible first | exact bw HB.out | refine bset ?_ (by assumption) | apply below_alloc | apply pw_below_drewN | apply below_drew1) | exact HB.out)) hb); clear BK654; clear HB; have BK654 := n0_; have HB := n1_; clear n0_ n1_; (try clear hb); (try clear hb2); (try clear hk); (try clear hi)))
  go_ret2
  exact ⟨_, by first | rfl | (simp [errW_none, errW_some] <;> rfl) | (simp [*, errW_none, errW_some] <;> rfl), by first | exact Kd.R_nil _ _ _ _ _ | exact Kd.N_nil _ _ _ _ _ | exact Kd.V_nil _ _ _ _ _ | exact Kd.Q_nil _ _ _ _ _ | exact Kd.S_nil _ _ _ _ _, by repeat (first | (with_reducible first | exact bw HB.out | refine bset ?_ (by assumption) | apply below_alloc | apply pw_below_drewN | apply below_drew1) | exact HB.out)⟩

end Go.Proofs.Ytafdeppeacmpdaa.X
