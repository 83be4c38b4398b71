-- Written by a program of this session (wip/gen/xp.py, over the kit's printer). Not trusted: Lean checks it.
import Derived.Test.YtkcnedkgpinabaaX0
import Derived.Test.YtkcnedkgpinabaaXf133
import Derived.Test.YtkcnedkgpinabaaXf55
namespace Go.Proofs.Ytkcnedkgpinabaa.X
open Go.RowKit Go.Proofs.YtkcnedkgpinabaaW.PrintWords Go.Proofs.YtkcnedkgpinabaaW.PrintLast Go.Proofs.YtkcnedkgpinabaaW.PrintMore
attribute [local go_sem] max2_int min2_int max_two min_two max_three min_three max_four min_four   -- for this text's walks alone
set_option linter.unusedVariables false
set_option linter.unusedSimpArgs false

/-! ### impl_difference: function 134 -/
def impl_difference.f (a0_0 : Int) (a0_1 : Int) (a0_2 : Int) (a0_3 : Int) (a1_0 : Int) (a1_1 : Int) (a1_2 : Int) (a1_3 : Int) (a2 : Int) : Option (Int) := if a2 = 1 then (some (wrap64 (a0_2 - a1_2))) else (if a2 = 2 then (some (wrap64 (a0_0 - a1_0))) else (if a2 = 3 then (some (wrap64 ((wrap64 (a0_0 * a1_1)) - (wrap64 (a1_0 * a0_1))))) else (some (wrap64 (a0_3 - a1_3)))))
set_option maxHeartbeats 8000000 in
set_option maxRecDepth 100000 in
theorem impl_difference.calls (a0_0 : Int) (a0_1 : Int) (a0_2 : Int) (a0_3 : Int) (a1_0 : Int) (a1_1 : Int) (a1_2 : Int) (a1_3 : Int) (a2 : Int) (r : Int) (w : World) (h : impl_difference.f a0_0 a0_1 a0_2 a0_3 a1_0 a1_1 a1_2 a1_3 a2 = some r) :
  Calls Try.prog 134 #[.agg #[.int .i64 a0_0, .int .i64 a0_1, .int .i64 a0_2, .int .i64 a0_3], .agg #[.int .i64 a1_0, .int .i64 a1_1, .int .i64 a1_2, .int .i64 a1_3], .int .i64 a2] w fun e w' => e = .returned (.int .i64 r) ∧ Below w.heap.size w w' := by
 have hu127 := Try.underlying127
 have HB := Aside0.mk (Below.refl w.heap.size w)
 have H : (if a2 = 1 then (some (wrap64 (a0_2 - a1_2))) else (if a2 = 2 then (some (wrap64 (a0_0 - a1_0))) else (if a2 = 3 then (some (wrap64 ((wrap64 (a0_0 * a1_1)) - (wrap64 (a1_0 * a0_1))))) else (some (wrap64 (a0_3 - a1_3)))))) = some r := h
 clear h
 by_cases c4 : a2 = 1
 ·rw [if_pos c4] at H
  have c4b0 : (a2 == 1) = true := beq_iff_eq.mpr c4
  have c4b1 : (a2 != 1) = false := bne_eq_false_iff_eq.mpr c4
  clear c4
  obtain rfl := Option.some.inj H
  go_enter Try.func134, Try.ntmps134
  go_wp2_with (first | ((with_reducible refine gate_dst (N := 3) rfl ?_); refine box_event ?hg (N := 3) ?hd (cs := #[.int .i64 a0_0, .int .i64 a0_1, .int .i64 a0_2, .int .i64 a0_3]) (t := 127) ?hr ?_; (case hd => rfl); (case hg => rfl); (case hr => first | (go_simp; done) | (go_simp; rfl)); intro gb1081 hg w5 hbox hb; have n0_ := Aside0.mk (below_step (by repeat (first | (with_reducible first | exact HB.out | apply below_alloc | apply pw_below_drewN | apply below_drew1) | exact HB.out)) hb); have n1_ := Aside0.mk (hbox); have n2_ := Aside0.mk ((by rw [hg]; exact (below_size (by repeat (first | (with_reducible first | exact HB.out | apply below_alloc | apply pw_below_drewN | apply below_drew1) | exact HB.out))) : w.heap.size ≤ gb1081)); have n3_ := Aside0.mk ((by rw [hg]; exact (below_size (by repeat (first | (with_reducible first | exact HB.out | apply below_alloc | apply pw_below_drewN | apply below_drew1) | exact HB.out))) : w.heap.size ≤ gb1081)); clear HB; have HB := n0_; have BK1081 := n1_; have GW1081 := n2_; have GE1081 := n3_; clear n0_ n1_ n2_ n3_; clear hb hbox hg) | ((with_reducible refine gate_dst (N := 4) rfl ?_); refine box_event ?hg (N := 4) ?hd (cs := #[.int .i64 a1_0, .int .i64 a1_1, .int .i64 a1_2, .int .i64 a1_3]) (t := 127) ?hr ?_; (case hd => rfl); (case hg => rfl); (case hr => first | (go_simp; done) | (go_simp; rfl)); intro gb1082 hg w6 hbox hb; have n0_ := Aside0.mk (blk_below (g := gb1081) (o := .cells #[.int .i64 a0_0, .int .i64 a0_1, .int .i64 a0_2, .int .i64 a0_3] 127 (0, 0)) (by (with_reducible repeat (first | refine blk_drewN ?_ _ | refine blk_drew ?_ | refine blk_alloc ?_ _)); exact BK1081.out) hb); have n1_ := Aside0.mk (below_step (by repeat (first | (with_reducible first | exact HB.out | apply below_alloc | apply pw_below_drewN | apply below_drew1 | refine below_set ?_ GE1081.out) | exact HB.out)) hb); have n2_ := Aside0.mk (hbox); have n3_ := Aside0.mk ((by rw [hg]; exact (below_size (by repeat (first | (with_reducible first | exact HB.out | apply below_alloc | apply pw_below_drewN | apply below_drew1 | refine below_set ?_ GE1081.out) | exact HB.out))) : w.heap.size ≤ gb1082)); have n4_ := Aside0.mk ((by rw [hg]; exact (below_size (by repeat (first | (with_reducible first | exact HB.out | apply below_alloc | apply pw_below_drewN | apply below_drew1 | refine below_set ?_ GE1081.out) | exact HB.out))) : w.heap.size ≤ gb1082)); have n5_ := Aside0.mk ((by rw [hg]; exact Nat.ne_of_lt (blk_lt (g := gb1081) (o := .cells #[.int .i64 a0_0, .int .i64 a0_1, .int .i64 a0_2, .int .i64 a0_3] 127 (0, 0)) (by (with_reducible repeat (first | refine blk_drewN ?_ _ | refine blk_drew ?_ | refine blk_alloc ?_ _)); exact BK1081.out)) : gb1081 ≠ gb1082)); have n6_ := Aside0.mk ((by rw [hg]; exact Nat.ne_of_gt (blk_lt (g := gb1081) (o := .cells #[.int .i64 a0_0, .int .i64 a0_1, .int .i64 a0_2, .int .i64 a0_3] 127 (0, 0)) (by (with_reducible repeat (first | refine blk_drewN ?_ _ | refine blk_drew ?_ | refine blk_alloc ?_ _)); exact BK1081.out)) : gb1082 ≠ gb1081)); clear BK1081; clear HB; have BK1081 := n0_; have HB := n1_; have BK1082 := n2_; have GW1082 := n3_; have GE1082 := n4_; have NB1081_1082 := n5_; have NB1082_1081 := n6_; clear n0_ n1_ n2_ n3_ n4_ n5_ n6_; clear hb hbox hg; have hnb7 := NB1081_1082.out; have hnc7 := NB1082_1081.out; have hcz8_0 : w6.cell? ⟨gb1081, 0, none⟩ = some (.int .i64 a0_0) := (blk_cell BK1081.out 0).trans rfl; have hcz8_1 : w6.cell? ⟨gb1081, 1, none⟩ = some (.int .i64 a0_1) := (blk_cell BK1081.out 1).trans rfl; have hcz8_2 : w6.cell? ⟨gb1081, 2, none⟩ = some (.int .i64 a0_2) := (blk_cell BK1081.out 2).trans rfl; have hcz8_3 : w6.cell? ⟨gb1081, 3, none⟩ = some (.int .i64 a0_3) := (blk_cell BK1081.out 3).trans rfl; have hfz8_0 := blk_frozen BK1081.out 0; have hfz8_1 := blk_frozen BK1081.out 1; have hfz8_2 := blk_frozen BK1081.out 2; have hfz8_3 := blk_frozen BK1081.out 3; have hcz9_0 : w6.cell? ⟨gb1082, 0, none⟩ = some (.int .i64 a1_0) := (blk_cell BK1082.out 0).trans rfl; have hcz9_1 : w6.cell? ⟨gb1082, 1, none⟩ = some (.int .i64 a1_1) := (blk_cell BK1082.out 1).trans rfl; have hcz9_2 : w6.cell? ⟨gb1082, 2, none⟩ = some (.int .i64 a1_2) := (blk_cell BK1082.out 2).trans rfl; have hcz9_3 : w6.cell? ⟨gb1082, 3, none⟩ = some (.int .i64 a1_3) := (blk_cell BK1082.out 3).trans rfl; have hfz9_0 := blk_frozen BK1082.out 0; have hfz9_1 := blk_frozen BK1082.out 1; have hfz9_2 := blk_frozen BK1082.out 2; have hfz9_3 := blk_frozen BK1082.out 3))
  go_ret
  exact ⟨by first | rfl | (simp [errW_none, errW_some] <;> rfl) | (simp [*, errW_none, errW_some] <;> rfl), by repeat (first | (with_reducible first | exact HB.out | apply below_alloc | apply pw_below_drewN | apply below_drew1 | refine below_set ?_ GE1081.out | refine below_set ?_ GE1082.out) | exact HB.out)⟩
 ·rw [if_neg c4] at H
  have c4b0 : (a2 == 1) = false := beq_eq_false_iff_ne.mpr c4
  have c4b1 : (a2 != 1) = true := bne_iff_ne.mpr c4
  by_cases c10 : a2 = 2
  ·rw [if_pos c10] at H
   have c10b0 : (a2 == 2) = true := beq_iff_eq.mpr c10
   have c10b1 : (a2 != 2) = false := bne_eq_false_iff_eq.mpr c10
   clear c10
   obtain rfl := Option.some.inj H
   go_enter Try.func134, Try.ntmps134
   go_wp2_with (first | ((with_reducible refine gate_dst (N := 3) rfl ?_); refine box_event ?hg (N := 3) ?hd (cs := #[.int .i64 a0_0, .int .i64 a0_1, .int .i64 a0_2, .int .i64 a0_3]) (t := 127) ?hr ?_; (case hd => rfl); (case hg => rfl); (case hr => first | (go_simp; done) | (go_simp; rfl)); intro gb1081 hg w11 hbox hb; have n0_ := Aside0.mk (below_step (by repeat (first | (with_reducible first | exact HB.out | apply below_alloc | apply pw_below_drewN | apply below_drew1) | exact HB.out)) hb); have n1_ := Aside0.mk (hbox); have n2_ := Aside0.mk ((by rw [hg]; exact (below_size (by repeat (first | (with_reducible first | exact HB.out | apply below_alloc | apply pw_below_drewN | apply below_drew1) | exact HB.out))) : w.heap.size ≤ gb1081)); have n3_ := Aside0.mk ((by rw [hg]; exact (below_size (by repeat (first | (with_reducible first | exact HB.out | apply below_alloc | apply pw_below_drewN | apply below_drew1) | exact HB.out))) : w.heap.size ≤ gb1081)); clear HB; have HB := n0_; have BK1081 := n1_; have GW1081 := n2_; have GE1081 := n3_; clear n0_ n1_ n2_ n3_; clear hb hbox hg) | ((with_reducible refine gate_dst (N := 4) rfl ?_); refine box_event ?hg (N := 4) ?hd (cs := #[.int .i64 a1_0, .int .i64 a1_1, .int .i64 a1_2, .int .i64 a1_3]) (t := 127) ?hr ?_; (case hd => rfl); (case hg => rfl); (case hr => first | (go_simp; done) | (go_simp; rfl)); intro gb1082 hg w12 hbox hb; have n0_ := Aside0.mk (blk_below (g := gb1081) (o := .cells #[.int .i64 a0_0, .int .i64 a0_1, .int .i64 a0_2, .int .i64 a0_3] 127 (0, 0)) (by (with_reducible repeat (first | refine blk_drewN ?_ _ | refine blk_drew ?_ | refine blk_alloc ?_ _)); exact BK1081.out) hb); have n1_ := Aside0.mk (below_step (by repeat (first | (with_reducible first | exact HB.out | apply below_alloc | apply pw_below_drewN | apply below_drew1 | refine below_set ?_ GE1081.out) | exact HB.out)) hb); have n2_ := Aside0.mk (hbox); have n3_ := Aside0.mk ((by rw [hg]; exact (below_size (by repeat (first | (with_reducible first | exact HB.out | apply below_alloc | apply pw_below_drewN | apply below_drew1 | refine below_set ?_ GE1081.out) | exact HB.out))) : w.heap.size ≤ gb1082)); have n4_ := Aside0.mk ((by rw [hg]; exact (below_size (by repeat (first | (with_reducible first | exact HB.out | apply below_alloc | apply pw_below_drewN | apply below_drew1 | refine below_set ?_ GE1081.out) | exact HB.out))) : w.heap.size ≤ gb1082)); have n5_ := Aside0.mk ((by rw [hg]; exact Nat.ne_of_lt (blk_lt (g := gb1081) (o := .cells #[.int .i64 a0_0, .int .i64 a0_1, .int .i64 a0_2, .int .i64 a0_3] 127 (0, 0)) (by (with_reducible repeat (first | refine blk_drewN ?_ _ | refine blk_drew ?_ | refine blk_alloc ?_ _)); exact BK1081.out)) : gb1081 ≠ gb1082)); have n6_ := Aside0.mk ((by rw [hg]; exact Nat.ne_of_gt (blk_lt (g := gb1081) (o := .cells #[.int .i64 a0_0, .int .i64 a0_1, .int .i64 a0_2, .int .i64 a0_3] 127 (0, 0)) (by (with_reducible repeat (first | refine blk_drewN ?_ _ | refine blk_drew ?_ | refine blk_alloc ?_ _)); exact BK1081.out)) : gb1082 ≠ gb1081)); clear BK1081; clear HB; have BK1081 := n0_; have HB := n1_; have BK1082 := n2_; have GW1082 := n3_; have GE1082 := n4_; have NB1081_1082 := n5_; have NB1082_1081 := n6_; clear n0_ n1_ n2_ n3_ n4_ n5_ n6_; clear hb hbox hg; have hnb13 := NB1081_1082.out; have hnc13 := NB1082_1081.out; have hcz14_0 : w12.cell? ⟨gb1081, 0, none⟩ = some (.int .i64 a0_0) := (blk_cell BK1081.out 0).trans rfl; have hcz14_1 : w12.cell? ⟨gb1081, 1, none⟩ = some (.int .i64 a0_1) := (blk_cell BK1081.out 1).trans rfl; have hcz14_2 : w12.cell? ⟨gb1081, 2, none⟩ = some (.int .i64 a0_2) := (blk_cell BK1081.out 2).trans rfl; have hcz14_3 : w12.cell? ⟨gb1081, 3, none⟩ = some (.int .i64 a0_3) := (blk_cell BK1081.out 3).trans rfl; have hfz14_0 := blk_frozen BK1081.out 0; have hfz14_1 := blk_frozen BK1081.out 1; have hfz14_2 := blk_frozen BK1081.out 2; have hfz14_3 := blk_frozen BK1081.out 3; have hcz15_0 : w12.cell? ⟨gb1082, 0, none⟩ = some (.int .i64 a1_0) := (blk_cell BK1082.out 0).trans rfl; have hcz15_1 : w12.cell? ⟨gb1082, 1, none⟩ = some (.int .i64 a1_1) := (blk_cell BK1082.out 1).trans rfl; have hcz15_2 : w12.cell? ⟨gb1082, 2, none⟩ = some (.int .i64 a1_2) := (blk_cell BK1082.out 2).trans rfl; have hcz15_3 : w12.cell? ⟨gb1082, 3, none⟩ = some (.int .i64 a1_3) := (blk_cell BK1082.out 3).trans rfl; have hfz15_0 := blk_frozen BK1082.out 0; have hfz15_1 := blk_frozen BK1082.out 1; have hfz15_2 := blk_frozen BK1082.out 2; have hfz15_3 := blk_frozen BK1082.out 3))
   go_ret
   exact ⟨by first | rfl | (simp [errW_none, errW_some] <;> rfl) | (simp [*, errW_none, errW_some] <;> rfl), by repeat (first | (with_reducible first | exact HB.out | apply below_alloc | apply pw_below_drewN | apply below_drew1 | refine below_set ?_ GE1081.out | refine below_set ?_ GE1082.out) | exact HB.out)⟩
  ·rw [if_neg c10] at H
   have c10b0 : (a2 == 2) = false := beq_eq_false_iff_ne.mpr c10
   have c10b1 : (a2 != 2) = true := bne_iff_ne.mpr c10
   by_cases c16 : a2 = 3
   ·rw [if_pos c16] at H
    have c16b0 : (a2 == 3) = true := beq_iff_eq.mpr c16
    have c16b1 : (a2 != 3) = false := bne_eq_false_iff_eq.mpr c16
    clear c16
    obtain rfl := Option.some.inj H
    go_enter Try.func134, Try.ntmps134
    go_wp2_with (first | ((with_reducible refine gate_dst (N := 3) rfl ?_); refine box_event ?hg (N := 3) ?hd (cs := #[.int .i64 a0_0, .int .i64 a0_1, .int .i64 a0_2, .int .i64 a0_3]) (t := 127) ?hr ?_; (case hd => rfl); (case hg => rfl); (case hr => first | (go_simp; done) | (go_simp; rfl)); intro gb1081 hg w17 hbox hb; have n0_ := Aside0.mk (below_step (by repeat (first | (with_reducible first | exact HB.out | apply below_alloc | apply pw_below_drewN | apply below_drew1) | exact HB.out)) hb); have n1_ := Aside0.mk (hbox); have n2_ := Aside0.mk ((by rw [hg]; exact (below_size (by repeat (first | (with_reducible first | exact HB.out | apply below_alloc | apply pw_below_drewN | apply below_drew1) | exact HB.out))) : w.heap.size ≤ gb1081)); have n3_ := Aside0.mk ((by rw [hg]; exact (below_size (by repeat (first | (with_reducible first | exact HB.out | apply below_alloc | apply pw_below_drewN | apply below_drew1) | exact HB.out))) : w.heap.size ≤ gb1081)); clear HB; have HB := n0_; have BK1081 := n1_; have GW1081 := n2_; have GE1081 := n3_; clear n0_ n1_ n2_ n3_; clear hb hbox hg) | ((with_reducible refine gate_dst (N := 4) rfl ?_); refine box_event ?hg (N := 4) ?hd (cs := #[.int .i64 a1_0, .int .i64 a1_1, .int .i64 a1_2, .int .i64 a1_3]) (t := 127) ?hr ?_; (case hd => rfl); (case hg => rfl); (case hr => first | (go_simp; done) | (go_simp; rfl)); intro gb1082 hg w18 hbox hb; have n0_ := Aside0.mk (blk_below (g := gb1081) (o := .cells #[.int .i64 a0_0, .int .i64 a0_1, .int .i64 a0_2, .int .i64 a0_3] 127 (0, 0)) (by (with_reducible repeat (first | refine blk_drewN ?_ _ | refine blk_drew ?_ | refine blk_alloc ?_ _)); exact BK1081.out) hb); have n1_ := Aside0.mk (below_step (by repeat (first | (with_reducible first | exact HB.out | apply below_alloc | apply pw_below_drewN | apply below_drew1 | refine below_set ?_ GE1081.out) | exact HB.out)) hb); have n2_ := Aside0.mk (hbox); have n3_ := Aside0.mk ((by rw [hg]; exact (below_size (by repeat (first | (with_reducible first | exact HB.out | apply below_alloc | apply pw_below_drewN | apply below_drew1 | refine below_set ?_ GE1081.out) | exact HB.out))) : w.heap.size ≤ gb1082)); have n4_ := Aside0.mk ((by rw [hg]; exact (below_size (by repeat (first | (with_reducible first | exact HB.out | apply below_alloc | apply pw_below_drewN | apply below_drew1 | refine below_set ?_ GE1081.out) | exact HB.out))) : w.heap.size ≤ gb1082)); have n5_ := Aside0.mk ((by rw [hg]; exact Nat.ne_of_lt (blk_lt (g := gb1081) (o := .cells #[.int .i64 a0_0, .int .i64 a0_1, .int .i64 a0_2, .int .i64 a0_3] 127 (0, 0)) (by (with_reducible repeat (first | refine blk_drewN ?_ _ | refine blk_drew ?_ | refine blk_alloc ?_ _)); exact BK1081.out)) : gb1081 ≠ gb1082)); have n6_ := Aside0.mk ((by rw [hg]; exact Nat.ne_of_gt (blk_lt (g := gb1081) (o := .cells #[.int .i64 a0_0, .int .i64 a0_1, .int .i64 a0_2, .int .i64 a0_3] 127 (0, 0)) (by (with_reducible repeat (first | refine blk_drewN ?_ _ | refine blk_drew ?_ | refine blk_alloc ?_ _)); exact BK1081.out)) : gb1082 ≠ gb1081)); clear BK1081; clear HB; have BK1081 := n0_; have HB := n1_; have BK1082 := n2_; have GW1082 := n3_; have GE1082 := n4_; have NB1081_1082 := n5_; have NB1082_1081 := n6_; clear n0_ n1_ n2_ n3_ n4_ n5_ n6_; clear hb hbox hg; have hnb19 := NB1081_1082.out; have hnc19 := NB1082_1081.out; have hcz20_0 : w18.cell? ⟨gb1081, 0, none⟩ = some (.int .i64 a0_0) := (blk_cell BK1081.out 0).trans rfl; have hcz20_1 : w18.cell? ⟨gb1081, 1, none⟩ = some (.int .i64 a0_1) := (blk_cell BK1081.out 1).trans rfl; have hcz20_2 : w18.cell? ⟨gb1081, 2, none⟩ = some (.int .i64 a0_2) := (blk_cell BK1081.out 2).trans rfl; have hcz20_3 : w18.cell? ⟨gb1081, 3, none⟩ = some (.int .i64 a0_3) := (blk_cell BK1081.out 3).trans rfl; have hfz20_0 := blk_frozen BK1081.out 0; have hfz20_1 := blk_frozen BK1081.out 1; have hfz20_2 := blk_frozen BK1081.out 2; have hfz20_3 := blk_frozen BK1081.out 3; have hcz21_0 : w18.cell? ⟨gb1082, 0, none⟩ = some (.int .i64 a1_0) := (blk_cell BK1082.out 0).trans rfl; have hcz21_1 : w18.cell? ⟨gb1082, 1, none⟩ = some (.int .i64 a1_1) := (blk_cell BK1082.out 1).trans rfl; have hcz21_2 : w18.cell? ⟨gb1082, 2, none⟩ = some (.int .i64 a1_2) := (blk_cell BK1082.out 2).trans rfl; have hcz21_3 : w18.cell? ⟨gb1082, 3, none⟩ = some (.int .i64 a1_3) := (blk_cell BK1082.out 3).trans rfl; have hfz21_0 := blk_frozen BK1082.out 0; have hfz21_1 := blk_frozen BK1082.out 1; have hfz21_2 := blk_frozen BK1082.out 2; have hfz21_3 := blk_frozen BK1082.out 3))
    go_ret
    exact ⟨by first | rfl | (simp [errW_none, errW_some] <;> rfl) | (simp [*, errW_none, errW_some] <;> rfl), by repeat (first | (with_reducible first | exact HB.out | apply below_alloc | apply pw_below_drewN | apply below_drew1 | refine below_set ?_ GE1081.out | refine below_set ?_ GE1082.out) | exact HB.out)⟩
   ·rw [if_neg c16] at H
    have c16b0 : (a2 == 3) = false := beq_eq_false_iff_ne.mpr c16
    have c16b1 : (a2 != 3) = true := bne_iff_ne.mpr c16
    obtain rfl := Option.some.inj H
    go_enter Try.func134, Try.ntmps134
    go_wp2_with (first | ((with_reducible refine gate_dst (N := 3) rfl ?_); refine box_event ?hg (N := 3) ?hd (cs := #[.int .i64 a0_0, .int .i64 a0_1, .int .i64 a0_2, .int .i64 a0_3]) (t := 127) ?hr ?_; (case hd => rfl); (case hg => rfl); (case hr => first | (go_simp; done) | (go_simp; rfl)); intro gb1081 hg w22 hbox hb; have n0_ := Aside0.mk (below_step (by repeat (first | (with_reducible first | exact HB.out | apply below_alloc | apply pw_below_drewN | apply below_drew1) | exact HB.out)) hb); have n1_ := Aside0.mk (hbox); have n2_ := Aside0.mk ((by rw [hg]; exact (below_size (by repeat (first | (with_reducible first | exact HB.out | apply below_alloc | apply pw_below_drewN | apply below_drew1) | exact HB.out))) : w.heap.size ≤ gb1081)); have n3_ := Aside0.mk ((by rw [hg]; exact (below_size (by repeat (first | (with_reducible first | exact HB.out | apply below_alloc | apply pw_below_drewN | apply below_drew1) | exact HB.out))) : w.heap.size ≤ gb1081)); clear HB; have HB := n0_; have BK1081 := n1_; have GW1081 := n2_; have GE1081 := n3_; clear n0_ n1_ n2_ n3_; clear hb hbox hg) | ((with_reducible refine gate_dst (N := 4) rfl ?_); refine box_event ?hg (N := 4) ?hd (cs := #[.int .i64 a1_0, .int .i64 a1_1, .int .i64 a1_2, .int .i64 a1_3]) (t := 127) ?hr ?_; (case hd => rfl); (case hg => rfl); (case hr => first | (go_simp; done) | (go_simp; rfl)); intro gb1082 hg w23 hbox hb; have n0_ := Aside0.mk (blk_below (g := gb1081) (o := .cells #[.int .i64 a0_0, .int .i64 a0_1, .int .i64 a0_2, .int .i64 a0_3] 127 (0, 0)) (by (with_reducible repeat (first | refine blk_drewN ?_ _ | refine blk_drew ?_ | refine blk_alloc ?_ _)); exact BK1081.out) hb); have n1_ := Aside0.mk (below_step (by repeat (first | (with_reducible first | exact HB.out | apply below_alloc | apply pw_below_drewN | apply below_drew1 | refine below_set ?_ GE1081.out) | exact HB.out)) hb); have n2_ := Aside0.mk (hbox); have n3_ := Aside0.mk ((by rw [hg]; exact (below_size (by repeat (first | (with_reducible first | exact HB.out | apply below_alloc | apply pw_below_drewN | apply below_drew1 | refine below_set ?_ GE1081.out) | exact HB.out))) : w.heap.size ≤ gb1082)); have n4_ := Aside0.mk ((by rw [hg]; exact (below_size (by repeat (first | (with_reducible first | exact HB.out | apply below_alloc | apply pw_below_drewN | apply below_drew1 | refine below_set ?_ GE1081.out) | exact HB.out))) : w.heap.size ≤ gb1082)); have n5_ := Aside0.mk ((by rw [hg]; exact Nat.ne_of_lt (blk_lt (g := gb1081) (o := .cells #[.int .i64 a0_0, .int .i64 a0_1, .int .i64 a0_2, .int .i64 a0_3] 127 (0, 0)) (by (with_reducible repeat (first | refine blk_drewN ?_ _ | refine blk_drew ?_ | refine blk_alloc ?_ _)); exact BK1081.out)) : gb1081 ≠ gb1082)); have n6_ := Aside0.mk ((by rw [hg]; exact Nat.ne_of_gt (blk_lt (g := gb1081) (o := .cells #[.int .i64 a0_0, .int .i64 a0_1, .int .i64 a0_2, .int .i64 a0_3] 127 (0, 0)) (by (with_reducible repeat (first | refine blk_drewN ?_ _ | refine blk_drew ?_ | refine blk_alloc ?_ _)); exact BK1081.out)) : gb1082 ≠ gb1081)); clear BK1081; clear HB; have BK1081 := n0_; have HB := n1_; have BK1082 := n2_; have GW1082 := n3_; have GE1082 := n4_; have NB1081_1082 := n5_; have NB1082_1081 := n6_; clear n0_ n1_ n2_ n3_ n4_ n5_ n6_; clear hb hbox hg; have hnb24 := NB1081_1082.out; have hnc24 := NB1082_1081.out; have hcz25_0 : w23.cell? ⟨gb1081, 0, none⟩ = some (.int .i64 a0_0) := (blk_cell BK1081.out 0).trans rfl; have hcz25_1 : w23.cell? ⟨gb1081, 1, none⟩ = some (.int .i64 a0_1) := (blk_cell BK1081.out 1).trans rfl; have hcz25_2 : w23.cell? ⟨gb1081, 2, none⟩ = some (.int .i64 a0_2) := (blk_cell BK1081.out 2).trans rfl; have hcz25_3 : w23.cell? ⟨gb1081, 3, none⟩ = some (.int .i64 a0_3) := (blk_cell BK1081.out 3).trans rfl; have hfz25_0 := blk_frozen BK1081.out 0; have hfz25_1 := blk_frozen BK1081.out 1; have hfz25_2 := blk_frozen BK1081.out 2; have hfz25_3 := blk_frozen BK1081.out 3; have hcz26_0 : w23.cell? ⟨gb1082, 0, none⟩ = some (.int .i64 a1_0) := (blk_cell BK1082.out 0).trans rfl; have hcz26_1 : w23.cell? ⟨gb1082, 1, none⟩ = some (.int .i64 a1_1) := (blk_cell BK1082.out 1).trans rfl; have hcz26_2 : w23.cell? ⟨gb1082, 2, none⟩ = some (.int .i64 a1_2) := (blk_cell BK1082.out 2).trans rfl; have hcz26_3 : w23.cell? ⟨gb1082, 3, none⟩ = some (.int .i64 a1_3) := (blk_cell BK1082.out 3).trans rfl; have hfz26_0 := blk_frozen BK1082.out 0; have hfz26_1 := blk_frozen BK1082.out 1; have hfz26_2 := blk_frozen BK1082.out 2; have hfz26_3 := blk_frozen BK1082.out 3))
    go_ret
    exact ⟨by first | rfl | (simp [errW_none, errW_some] <;> rfl) | (simp [*, errW_none, errW_some] <;> rfl), by repeat (first | (with_reducible first | exact HB.out | apply below_alloc | apply pw_below_drewN | apply below_drew1 | refine below_set ?_ GE1081.out | refine below_set ?_ GE1082.out) | exact HB.out)⟩

/-! ### impl_exchanged: function 135 -/
abbrev q135_0 : Array Bool := #[false, false, false, false, false, false, false, false, false, false, false, false, false, false, false, false, false, false]
abbrev q135_1 : Array Bool := #[true, false, false, false, false, false, false, false, false, false, false, false, false, false, false, false, false, false]
abbrev q135_2 : Array Bool := #[true, true, false, false, false, false, false, false, false, false, false, false, false, false, false, false, false, false]
abbrev q135_3 : Array Bool := #[true, true, true, false, false, false, false, false, false, false, false, false, false, false, false, false, false, false]
abbrev q135_4 : Array Bool := #[true, true, true, true, false, false, false, false, false, false, false, false, false, false, false, false, false, false]
abbrev q135_5 : Array Bool := #[true, true, true, true, true, false, false, false, false, false, false, false, false, false, false, false, false, false]
abbrev q135_6 : Array Bool := #[true, true, true, true, true, true, false, false, false, false, false, false, false, false, false, false, false, false]
abbrev q135_7 : Array Bool := #[true, true, true, true, true, true, true, false, false, false, false, false, false, false, false, false, false, false]
abbrev q135_8 : Array Bool := #[true, true, true, true, true, true, true, true, false, false, false, false, false, false, false, false, false, false]
abbrev q135_9 : Array Bool := #[true, true, true, true, true, true, true, true, true, false, false, false, false, false, false, false, false, false]
abbrev q135_10 : Array Bool := #[true, true, true, true, true, true, true, true, true, false, true, false, false, false, false, false, false, false]
abbrev q135_11 : Array Bool := #[true, true, true, true, true, true, true, true, true, false, true, true, false, false, false, false, false, false]
abbrev q135_12 : Array Bool := #[true, true, true, true, true, true, true, true, true, false, true, true, true, false, false, false, false, false]
abbrev q135_13 : Array Bool := #[true, true, true, true, true, true, true, true, true, true, true, true, true, false, false, false, false, false]
abbrev q135_14 : Array Bool := #[true, true, true, true, true, true, true, true, true, true, true, true, true, true, false, false, false, false]
abbrev q135_15 : Array Bool := #[true, true, true, true, true, true, true, true, true, true, true, true, true, true, true, false, false, false]
abbrev q135_16 : Array Bool := #[true, true, true, true, true, true, true, true, true, true, true, true, true, true, true, true, false, false]
abbrev q135_17 : Array Bool := #[true, true, true, true, true, true, true, true, true, true, true, true, true, true, true, true, true, false]
abbrev q135_18 : Array Bool := #[true, true, true, true, true, true, true, true, true, true, true, true, true, true, true, true, true, true]
def impl_exchanged.f (l0 : List Int) (a1 : Int) : Option (List Int) := (impl_copyInts.f l0).bind fun t1083 => (if 0 ≤ (wrap64 (a1 + 1)) then (if (wrap64 (a1 + 1)) < (t1083.length : Int) then (if 0 ≤ a1 then (if a1 < (t1083.length : Int) then (some ((t1083.set (a1 : Int).toNat (rd t1083 (wrap64 (a1 + 1)))).set ((wrap64 (a1 + 1)) : Int).toNat (rd t1083 a1))) else (none)) else (none)) else (none)) else (none))
def impl_exchanged.T2 : Bool × List (List Nat × List Nat) := (true, [([], []), ([], []), ([], []), ([], []), ([3], [3]), ([], []), ([], []), ([6], [6]), ([5, 7], [5, 7]), ([8], [8]), ([], []), ([], []), ([10, 11], [10, 11]), ([12], [12]), ([0, 1, 0, 1, 5, 6, 7, 8, 9, 13], [0, 1]), ([14, 9, 0, 1, 5, 6, 7, 8, 9, 13], [9, 14]), ([2, 4, 0, 1, 2, 3, 4, 5, 6, 7, 8, 9, 10, 11, 12, 13, 14, 15], [2, 4]), ([16, 13, 15, 0, 1, 2, 3, 4, 5, 6, 7, 8, 9, 10, 11, 12, 13, 14, 15], [13, 16])])
def impl_exchanged.B2 : List Nat := [0, 0, 0, 0, 8, 0, 0, 64, 224, 480, 0, 0, 3072, 7168, 16355, 32739, 65535, 131071]
theorem impl_exchanged.tab2 : rtab .any (opsOf Try.f135 2) = impl_exchanged.T2 := by kernel_rfl
theorem impl_exchanged.bits2 : waitsOk impl_exchanged.T2.2 impl_exchanged.B2 = true := by kernel_rfl
set_option maxHeartbeats 8000000 in
set_option maxRecDepth 100000 in
theorem impl_exchanged.calls (A0 : Option Addr) (c0 : Nat) (l0 : List Int) (a1 : Int) (r : List Int) (w : World) (hr0 : Kd.C (Kd.int .i64) w A0 l0.length l0) (hc0 : l0.length ≤ c0) (h : impl_exchanged.f l0 a1 = some r) :
  Calls Try.prog 135 #[.slice A0 l0.length c0, .int .i64 a1] w fun e w' => ∃ v0_ : Value, e = .returned (v0_) ∧ Kd.R (Kd.int .i64) 3 w' w.heap.size (fun _ => True) v0_ r ∧ Below w.heap.size w w' := by
 have HR0 := Aside0.mk hr0
 have HC0 := Aside0.mk hc0
 clear hr0 hc0
 have HB := Aside0.mk (Below.refl w.heap.size w)
 have H : ((impl_copyInts.f l0).bind fun t1083 => (if 0 ≤ (wrap64 (a1 + 1)) then (if (wrap64 (a1 + 1)) < (t1083.length : Int) then (if 0 ≤ a1 then (if a1 < (t1083.length : Int) then (some ((t1083.set (a1 : Int).toNat (rd t1083 (wrap64 (a1 + 1)))).set ((wrap64 (a1 + 1)) : Int).toNat (rd t1083 a1))) else (none)) else (none)) else (none)) else (none))) = some r := h
 clear h
 replace H := Option.bind_eq_some_iff.mp H
 obtain ⟨t1083, A30, H⟩ := H
 replace H : (if 0 ≤ (wrap64 (a1 + 1)) then (if (wrap64 (a1 + 1)) < (t1083.length : Int) then (if 0 ≤ a1 then (if a1 < (t1083.length : Int) then (some ((t1083.set (a1 : Int).toNat (rd t1083 (wrap64 (a1 + 1)))).set ((wrap64 (a1 + 1)) : Int).toNat (rd t1083 a1))) else (none)) else (none)) else (none)) else (none)) = some r := H
 have A3 := Aside0.mk A30
 clear A30
 obtain ⟨ji4, hji4⟩ : ∃ j_ : Int, (wrap64 (a1 + 1)) = j_ := ⟨_, rfl⟩
 replace H : (if 0 ≤ (ji4) then (if (ji4) < (t1083.length : Int) then (if 0 ≤ a1 then (if a1 < (t1083.length : Int) then (some ((t1083.set (a1 : Int).toNat (rd t1083 (ji4))).set ((ji4) : Int).toNat (rd t1083 a1))) else (none)) else (none)) else (none)) else (none)) = some r := by first | (rw [hji4] at H; exact H) | (simp only [hji4] at H ⊢; exact H)
 (try rw [hji4] at A3)
 have hji4w : (IntKind.i64.wrap (a1 + 1)) = ji4 := (i64_w _).trans hji4
 by_cases c5 : 0 ≤ (ji4)
 ·rw [if_pos c5] at H
  have c5b0 : decide (0 ≤ (ji4)) = true := decide_eq_true c5
  clear c5
  by_cases c6 : (ji4) < (t1083.length : Int)
  ·rw [if_pos c6] at H
   have c6b0 : decide ((ji4) < (t1083.length : Int)) = true := decide_eq_true c6
   clear c6
   by_cases c7 : 0 ≤ a1
   ·rw [if_pos c7] at H
    have c7b0 : decide (0 ≤ a1) = true := decide_eq_true c7
    clear c7
    by_cases c8 : a1 < (t1083.length : Int)
    ·rw [if_pos c8] at H
     have c8b0 : decide (a1 < (t1083.length : Int)) = true := decide_eq_true c8
     clear c8
     obtain ⟨y1088, hy1088⟩ : ∃ y_ : List Int, y_ = (t1083.set (a1 : Int).toNat (rd t1083 (ji4))) := ⟨_, rfl⟩
     replace H : (some (y1088.set ((ji4) : Int).toNat (rd t1083 a1))) = some r := by first | (rw [hy1088]; with_reducible exact H) | (have H2_ := (Option.bind_some _ _).symm.trans H; rw [hy1088]; with_reducible exact H2_) | (have H2_ := (Option.bind_some _ _).symm.trans H; with_reducible exact H2_) | with_reducible exact H | (rw [hy1088]; exact H) | exact H
     have Ny1088 := Aside0.mk hy1088
     clear hy1088
     obtain ⟨y1089, hy1089⟩ : ∃ y_ : List Int, y_ = (y1088.set ((ji4) : Int).toNat (rd t1083 a1)) := ⟨_, rfl⟩
     replace H : (some y1089) = some r := by first | (rw [hy1089]; with_reducible exact H) | (have H2_ := (Option.bind_some _ _).symm.trans H; rw [hy1089]; with_reducible exact H2_) | (have H2_ := (Option.bind_some _ _).symm.trans H; with_reducible exact H2_) | with_reducible exact H | (rw [hy1089]; exact H) | exact H
     have Ny1089 := Aside0.mk hy1089
     clear hy1089
     obtain rfl := Option.some.inj H
     go_enter Try.func135, Try.ntmps135
     try go_wp2_with (first | ((with_reducible refine gate_callee (f := 133) rfl ?_); refine goesL_ (some 7) rfl rfl Try.func133 (by kernel_rfl) rfl #[.slice A0 l0.length c0] rfl (by (try simp only [List.map_toArray, List.map_cons, List.map_nil]); first | done | rfl | (simp only [List.length_drop, List.length_take]; rfl)) ?_; (with_reducible refine (impl_copyInts.calls _ _ l0 t1083 _ ?side1 ?side2 A3.out).mono ?_); (case side1 => repeat (first | exact HR0.out | (with_reducible refine Kd.C_alloc ?_ _) | (with_reducible refine Kd.C_drewN ?_ _) | (with_reducible refine Kd.C_drew ?_))); (case side2 => exact HC0.out); rintro e w11 ⟨v1084, rfl, ho0, hb⟩; refine ⟨_, rfl, ?_⟩; have n0_ := Aside0.mk (Kd.R_lower ho0 (below_size (by repeat (first | (with_reducible first | exact HB.out | apply below_alloc | apply pw_below_drewN | apply below_drew1) | exact HB.out)))); have n1_ := Aside0.mk (below_step (by repeat (first | (with_reducible first | exact HB.out | apply below_alloc | apply pw_below_drewN | apply below_drew1) | exact HB.out)) hb); clear HB; have HO1085 := n0_; have HB := n1_; clear n0_ n1_; (try clear hb); (try clear hb2); (try clear hk); (try clear hi); (try clear ho0)))
     have n0_ := Aside0.mk (Kd.R_drew HO1085.out)
     have n1_ := Aside0.mk (below_drew1 HB.out)
     clear HO1085
     clear HB
     have HO1085 := n0_
     have HB := n1_
     clear n0_ n1_
     obtain ⟨Ao13, co13, eo13⟩ := Kd.R_slice HO1085.out
     (first | subst eo13 | (injection eo13 with f1_ f2_ f3_; have f4_ := f1_.symm; have f5_ := f3_.symm; clear f1_ f2_ f3_; subst f4_; subst f5_))
     have p1086 : 0 ≤ ((ji4) : Int) := of_decide_eq_true (by first | (with_reducible assumption) | assumption)
     have q1086 : (ji4) < (t1083.length : Int) := of_decide_eq_true (by first | (with_reducible assumption) | assumption)
     obtain ⟨ad1086, e1086, hx1086_0⟩ := Kd.at_int (Kd.R_reads' HO1085.out).2.2 (ji4) p1086 q1086
     cases e1086
     replace p1086 := eq_true p1086
     replace q1086 := eq_true q1086
     have p1087 : 0 ≤ (a1 : Int) := of_decide_eq_true (by first | (with_reducible assumption) | assumption)
     have q1087 : a1 < (t1083.length : Int) := of_decide_eq_true (by first | (with_reducible assumption) | assumption)
     obtain ⟨ad1087, e1087, hx1087_0⟩ := Kd.at_int (Kd.R_reads' HO1085.out).2.2 a1 p1087 q1087
     obtain rfl : ad1086 = ad1087 := (by injection e1087)
     replace p1087 := eq_true p1087
     replace q1087 := eq_true q1087
     have p9 : 0 ≤ (a1 : Int) := of_decide_eq_true (by first | (with_reducible assumption) | assumption)
     have q9 : (a1 : Int) < ((t1083.length : Int) : Int) := of_decide_eq_true (by first | (with_reducible assumption) | assumption)
     obtain ⟨go9, co9, eo9, gb9, gl9, cl9, HG9⟩ := Kd.R_form HO1085.out (by omega)
     (first | cases eo9 | (injection eo9 with ea_ en_ ec_; (first | subst ea_ | (injection ea_ with ea_; subst ea_)); subst ec_; clear en_))
     have GB9 := Aside0.mk gb9
     have GG9 := Aside0.mk HG9
     clear gb9 gl9 HG9
     (first | simp only [add_plain] at hx1086_0 | skip)
     (first | simp only [add_plain] at hx1087_0 | skip)
     obtain ⟨hx9_0, hf9_0⟩ := Kd.R_celln 0 HO1085.out (a1 : Int) p9 q9
     replace p9 := eq_true p9
     replace q9 := eq_true q9
     have HP14 := Kd.R_putn HO1085.out (a1 : Int) (rd t1083 (ji4))
     rw [← Ny1088.out] at HP14
     have HQ14 := Aside0.mk HP14
     clear HP14
     have p10 : 0 ≤ ((ji4) : Int) := of_decide_eq_true (by first | (with_reducible assumption) | assumption)
     have q10 : ((ji4) : Int) < ((t1083.length : Int) : Int) := of_decide_eq_true (by first | (with_reducible assumption) | assumption)
     obtain ⟨hx10_0, hf10_0⟩ := Kd.R_celln 0 HQ14.out ((ji4) : Int) p10 q10
     replace p10 := eq_true p10
     replace q10 := eq_true q10
     have HP15 := Kd.R_putn HQ14.out ((ji4) : Int) (rd t1083 a1)
     rw [← Ny1089.out] at HP15
     have HQ15 := Aside0.mk HP15
     clear HP15
     refine start_ (n := 18) (S := fun w' => w'.cell? ⟨go9, ((ji4)).toNat, none⟩ = some (.int .i64 (rd t1083 (ji4))) ∧ w'.cell? ⟨go9, (a1).toNat, none⟩ = some (.int .i64 (rd t1083 a1))) (ds := [15, 17]) q135_0 (by kernel_rfl) rfl rfl ⟨hx1086_0, hx1087_0⟩ (fun hHeld => ?_); refine with_tabW impl_exchanged.tab2 impl_exchanged.bits2 (fun HT_ HW_ => ?_)
     generalize w11.drew = w12 at HO1085 HB GG9 HQ14 HQ15 hf10_0 hf9_0 hx1086_0 hx1087_0 hx10_0 hx9_0 hHeld ⊢
     refine pure_ (i := 0) (N := some 8) (v := ?_) (a' := ?_) q135_1 rfl rfl (any_of HT_.out (by kernel_rfl)) (fun _ _ _ h => h) (Or.inl ⟨by rfl, ?_⟩) ?_ ?_
     rotate_left
     ·intro w'
      go_simp
      with_reducible rfl
     rotate_left
     ·simp only [aq_]
      rfl
     refine pure_ (i := 1) (N := some 9) (v := ?_) (a' := ?_) q135_2 rfl rfl (any_of HT_.out (by kernel_rfl)) (fun _ _ _ h => h) (Or.inl ⟨by rfl, ?_⟩) ?_ ?_
     rotate_left
     ·intro w'
      go_simp
      with_reducible rfl
     rotate_left
     ·simp only [aq_]
      rfl
     refine pure_ (i := 2) (N := some 10) (v := ?_) (a' := ?_) q135_3 rfl rfl (any_of HT_.out (by kernel_rfl)) (fun _ _ _ h => h) (Or.inl ⟨by rfl, ?_⟩) ?_ ?_
     rotate_left
     ·intro w'
      go_simp
      with_reducible rfl
     rotate_left
     ·simp only [aq_]
      rfl
     refine pure_ (i := 3) (N := some 11) (v := ?_) (a' := ?_) q135_4 rfl rfl (any_of HT_.out (by kernel_rfl)) (fun _ _ _ h => h) (Or.inl ⟨by rfl, ?_⟩) ?_ ?_
     rotate_left
     ·intro w'
      go_simp
      with_reducible rfl
     rotate_left
     ·simp only [aq_]
      rfl
     refine pure_ (i := 4) (N := some 12) (v := ?_) (a' := ?_) q135_5 rfl rfl (any_of HT_.out (by kernel_rfl)) (fun _ _ _ h => h) (Or.inl ⟨by rfl, ?_⟩) ?_ ?_
     rotate_left
     ·intro w'
      go_simp
      with_reducible rfl
     rotate_left
     ·simp only [aq_]
      rfl
     refine pure_ (i := 5) (N := some 13) (v := ?_) (a' := ?_) q135_6 rfl rfl (any_of HT_.out (by kernel_rfl)) (fun _ _ _ h => h) (Or.inl ⟨by rfl, ?_⟩) ?_ ?_
     rotate_left
     ·intro w'
      go_simp
      with_reducible rfl
     rotate_left
     ·simp only [aq_]
      rfl
     refine pure_ (i := 6) (N := some 14) (v := ?_) (a' := ?_) q135_7 rfl rfl (any_of HT_.out (by kernel_rfl)) (fun _ _ _ h => h) (Or.inl ⟨by rfl, ?_⟩) ?_ ?_
     rotate_left
     ·intro w'
      go_simp
      with_reducible rfl
     rotate_left
     ·simp only [aq_]
      rfl
     refine pure_ (i := 7) (N := some 15) (v := ?_) (a' := ?_) q135_8 rfl rfl (any_of HT_.out (by kernel_rfl)) (fun _ _ _ h => h) (Or.inl ⟨by rfl, ?_⟩) ?_ ?_
     rotate_left
     ·intro w'
      go_simp
      with_reducible rfl
     rotate_left
     ·simp only [aq_]
      rfl
     refine pure_ (i := 8) (N := some 16) (v := ?_) (a' := ?_) q135_9 rfl rfl (any_of HT_.out (by kernel_rfl)) (fun _ _ _ h => h) (Or.inl ⟨by rfl, ?_⟩) ?_ ?_
     rotate_left
     ·intro w'
      go_simp
      with_reducible rfl
     rotate_left
     ·simp only [aq_]
      rfl
     refine pure_ (i := 10) (N := some 18) (v := ?_) (a' := ?_) q135_10 rfl rfl (any_of HT_.out (by kernel_rfl)) (fun _ _ _ h => h) (Or.inl ⟨by rfl, ?_⟩) ?_ ?_
     rotate_left
     ·intro w'
      go_simp
      with_reducible rfl
     rotate_left
     ·simp only [aq_]
      rfl
     refine pure_ (i := 11) (N := some 19) (v := ?_) (a' := ?_) q135_11 rfl rfl (any_of HT_.out (by kernel_rfl)) (fun _ _ _ h => h) (Or.inl ⟨by rfl, ?_⟩) ?_ ?_
     rotate_left
     ·intro w'
      go_simp
      with_reducible rfl
     rotate_left
     ·simp only [aq_]
      rfl
     refine pure_ (i := 12) (N := some 20) (v := ?_) (a' := ?_) q135_12 rfl rfl (any_of HT_.out (by kernel_rfl)) (fun _ _ _ h => h) (Or.inl ⟨by rfl, ?_⟩) ?_ ?_
     rotate_left
     ·intro w'
      go_simp
      with_reducible rfl
     rotate_left
     ·simp only [aq_]
      rfl
     refine take_ (i := 9) (N := some 17) (v := ?_) (a' := ?_) q135_13 rfl rfl (take_ofW HT_.out HW_.out (by kernel_rfl)) (fun _ _ _ h => h) (Or.inl ⟨by rfl, ?_⟩) hHeld ?_ ?_
     rotate_left
     ·rintro w' ⟨s0, s1⟩
      go_simp
      with_reducible rfl
     rotate_left
     ·simp only [aq_]
      rfl
     refine take_ (i := 13) (N := some 21) (v := ?_) (a' := ?_) q135_14 rfl rfl (take_ofW HT_.out HW_.out (by kernel_rfl)) (fun _ _ _ h => h) (Or.inl ⟨by rfl, ?_⟩) hHeld ?_ ?_
     rotate_left
     ·rintro w' ⟨s0, s1⟩
      go_simp
      with_reducible rfl
     rotate_left
     ·simp only [aq_]
      rfl
     refine pure_ (i := 14) (N := some 22) (v := ?_) (a' := ?_) q135_15 rfl rfl (any_of HT_.out (by kernel_rfl)) (fun _ _ _ h => h) (Or.inl ⟨by rfl, ?_⟩) ?_ ?_
     rotate_left
     ·intro w'
      go_simp
      with_reducible rfl
     rotate_left
     ·simp only [aq_]
      rfl
     refine last_ (i := 15) (N := none) q135_16 rfl rfl (one_of HT_.out (by kernel_rfl)) (by decide) (fun K hK => ?_)
     refine skip_ (w1 := ?_) (by rfl) rfl ?_ ?_
     rotate_left
     ·go_simp
      rfl
     refine hK.out _ _ ?_
     clear hK K
     refine pure_ (i := 16) (N := some 23) (v := ?_) (a' := ?_) q135_17 rfl rfl (any_of HT_.out (by kernel_rfl)) (fun _ _ _ h => h) (Or.inl ⟨by rfl, ?_⟩) ?_ ?_
     rotate_left
     ·intro w'
      go_simp
      with_reducible rfl
     rotate_left
     ·simp only [aq_]
      rfl
     refine last_ (i := 17) (N := none) q135_18 rfl rfl (one_of HT_.out (by kernel_rfl)) (by decide) (fun K hK => ?_)
     refine skip_ (w1 := ?_) (by rfl) rfl ?_ ?_
     rotate_left
     ·go_simp
      rfl
     refine hK.out _ _ ?_
     clear hK K
     refine done_ (done_of HT_.out (by kernel_rfl)) ?_
     try go_wp2
     go_ret
     exact ⟨_, by first | rfl | (simp [errW_none, errW_some] <;> rfl) | (simp only [← hji4]; first | rfl | (simp [errW_none, errW_some] <;> rfl)) | (simp [*, errW_none, errW_some] <;> rfl), by (with_reducible repeat (first | apply Kd.R_alloc | apply Kd.R_drewN | apply Kd.R_drew)); exact HQ15.out, by repeat (first | (with_reducible first | exact HB.out | apply below_alloc | apply pw_below_drewN | apply below_drew1 | refine below_set ?_ GB9.out | refine below_set ?_ GB9.out) | exact HB.out)⟩
    ·rw [if_neg c8] at H
     exact absurd H (by simp)
   ·rw [if_neg c7] at H
    exact absurd H (by simp)
  ·rw [if_neg c6] at H
   exact absurd H (by simp)
 ·rw [if_neg c5] at H
  exact absurd H (by simp)

/-! ### impl_SortingExchanges: function 56 -/
abbrev q56_0 : Array Bool := #[false, false, false, false, false, false, false, false, false, false, false, false, false, false, false, false, false, false]
abbrev q56_1 : Array Bool := #[true, false, false, false, false, false, false, false, false, false, false, false, false, false, false, false, false, false]
abbrev q56_2 : Array Bool := #[true, true, false, false, false, false, false, false, false, false, false, false, false, false, false, false, false, false]
abbrev q56_3 : Array Bool := #[true, true, true, false, false, false, false, false, false, false, false, false, false, false, false, false, false, false]
abbrev q56_4 : Array Bool := #[true, true, true, true, false, false, false, false, false, false, false, false, false, false, false, false, false, false]
abbrev q56_5 : Array Bool := #[true, true, true, true, true, false, false, false, false, false, false, false, false, false, false, false, false, false]
abbrev q56_6 : Array Bool := #[true, true, true, true, true, false, false, false, true, false, false, false, false, false, false, false, false, false]
abbrev q56_7 : Array Bool := #[true, true, true, true, true, false, false, false, true, true, false, false, false, false, false, false, false, false]
abbrev q56_8 : Array Bool := #[true, true, true, true, true, false, false, false, true, true, true, false, false, false, false, false, false, false]
abbrev q56_9 : Array Bool := #[true, true, true, true, true, false, false, false, true, true, true, true, false, false, false, false, false, false]
abbrev q56_10 : Array Bool := #[true, true, true, true, true, false, false, false, true, true, true, true, false, false, false, true, false, false]
abbrev q56_11 : Array Bool := #[true, true, true, true, true, true, false, false, true, true, true, true, false, false, false, true, false, false]
abbrev q56_12 : Array Bool := #[true, true, true, true, true, true, true, false, true, true, true, true, false, false, false, true, false, false]
abbrev q56_13 : Array Bool := #[true, true, true, true, true, true, true, true, true, true, true, true, false, false, false, true, false, false]
abbrev q56_14 : Array Bool := #[true, true, true, true, true, true, true, true, true, true, true, true, true, false, false, true, false, false]
abbrev q56_15 : Array Bool := #[true, true, true, true, true, true, true, true, true, true, true, true, true, true, false, true, false, false]
abbrev q56_16 : Array Bool := #[true, true, true, true, true, true, true, true, true, true, true, true, true, true, true, true, false, false]
abbrev q56_17 : Array Bool := #[true, true, true, true, true, true, true, true, true, true, true, true, true, true, true, true, true, false]
abbrev q56_18 : Array Bool := #[true, true, true, true, true, true, true, true, true, true, true, true, true, true, true, true, true, true]
def impl_SortingExchanges.l0 : Nat → List (S127) → Int → List Int → List Int → Int → Option (List Int × List Int × Bool)
 | 0, _, _, _, _, _ => none
 | k + 1, x0, x2, x9, x10, x11 => if (wrap64 (x11 + 1)) < (x9.length : Int) then (if 0 ≤ (wrap64 (x11 + 1)) then (if 0 ≤ (rd x9 (wrap64 (x11 + 1))) then (if (rd x9 (wrap64 (x11 + 1))) < (x0.length : Int) then (if 0 ≤ x11 then (if x11 < (x9.length : Int) then (if 0 ≤ (rd x9 x11) then (if (rd x9 x11) < (x0.length : Int) then ((impl_difference.f ((rd_T127 x0 (rd x9 (wrap64 (x11 + 1)))).f0) ((rd_T127 x0 (rd x9 (wrap64 (x11 + 1)))).f1) ((rd_T127 x0 (rd x9 (wrap64 (x11 + 1)))).f2) ((rd_T127 x0 (rd x9 (wrap64 (x11 + 1)))).f3) ((rd_T127 x0 (rd x9 x11)).f0) ((rd_T127 x0 (rd x9 x11)).f1) ((rd_T127 x0 (rd x9 x11)).f2) ((rd_T127 x0 (rd x9 x11)).f3) x2).bind fun t1098 => (if t1098 ≥ 0 then (impl_SortingExchanges.l0 k x0 x2 x9 x10 (wrap64 (x11 + 1))) else ((impl_exchanged.f x9 x11).bind fun t1099 => (if x10.length < 17592186044416 then (impl_SortingExchanges.l0 k x0 x2 t1099 (x10 ++ [x11]) 0) else (none))))) else (none)) else (none)) else (none)) else (none)) else (none)) else (none)) else (none)) else (some (x10, x9, true))
def impl_SortingExchanges.f (k : Nat) (l0 : List (S127)) (l1 : List Int) (a2 : Int) : Option (List Int × List Int × Bool) := (impl_isRuledAndOrdered.f k l0 l1 a2).bind fun t1090 => (if t1090 = true then ((impl_copyInts.f l1).bind fun t1091 => (impl_SortingExchanges.l0 k l0 a2 t1091 ([] : List Int) 0)) else (some (([] : List Int), ([] : List Int), false)))
theorem impl_SortingExchanges.mono_l : ∀ k, (∀ y0 y1 y2 y3 y4, LeO (impl_SortingExchanges.l0 k y0 y1 y2 y3 y4) (impl_SortingExchanges.l0 (k + 1) y0 y1 y2 y3 y4))
 | 0 => fun _ _ _ _ _ r h => by simp [impl_SortingExchanges.l0] at h
 | k + 1 => by
  have ih0 := impl_SortingExchanges.mono_l k
  ·intro y0 y1 y2 y3 y4
   unfold impl_SortingExchanges.l0
   repeat' first
   | (with_reducible exact ih0 _ _ _ _ _)
   | (with_reducible exact impl_isRuledAndOrdered.mono _ _ _ _)
   | (with_reducible exact LeO.refl _)
   | (with_reducible exact LeO.none _)
   | (with_reducible refine LeO.ite ?_ ?_)
   | (with_reducible refine LeO.bind ?_ (fun _ => ?_))
   | exact ih0 _ _ _ _ _
   | exact impl_isRuledAndOrdered.mono _ _ _ _
   | exact LeO.none _
   | refine LeO.ite ?_ ?_
   | refine LeO.bind ?_ (fun _ => ?_)
theorem impl_SortingExchanges.mono : ∀ a0 a1 a2 k, LeO (impl_SortingExchanges.f k a0 a1 a2) (impl_SortingExchanges.f (k + 1) a0 a1 a2) := by
 intro a0 a1 a2 k
 have ih0 := impl_SortingExchanges.mono_l k
 unfold impl_SortingExchanges.f
 repeat' first
   | (with_reducible exact ih0 _ _ _ _ _)
   | (with_reducible exact impl_isRuledAndOrdered.mono _ _ _ _)
   | (with_reducible exact LeO.refl _)
   | (with_reducible exact LeO.none _)
   | (with_reducible refine LeO.ite ?_ ?_)
   | (with_reducible refine LeO.bind ?_ (fun _ => ?_))
   | exact ih0 _ _ _ _ _
   | exact impl_isRuledAndOrdered.mono _ _ _ _
   | exact LeO.none _
   | refine LeO.ite ?_ ?_
   | refine LeO.bind ?_ (fun _ => ?_)
def impl_SortingExchanges.T7 : Bool × List (List Nat × List Nat) := (true, [([], []), ([], []), ([], []), ([2], [2]), ([1, 3], [1, 3]), ([4], [4]), ([0, 5], [0, 5]), ([6], [6]), ([], []), ([], []), ([], []), ([9, 10], [9, 10]), ([11], [11]), ([8, 12], [8, 12]), ([13], [13]), ([], []), ([7, 14, 15], [7, 14, 15]), ([16], [16])])
def impl_SortingExchanges.B7 : List Nat := [0, 0, 0, 4, 14, 30, 63, 127, 0, 0, 0, 1536, 3584, 7936, 16128, 0, 65535, 131071]
theorem impl_SortingExchanges.tab7 : rtab .any (opsOf Try.f56 7) = impl_SortingExchanges.T7 := by kernel_rfl
theorem impl_SortingExchanges.bits7 : waitsOk impl_SortingExchanges.T7.2 impl_SortingExchanges.B7 = true := by kernel_rfl
set_option maxHeartbeats 8000000 in
set_option maxRecDepth 100000 in
theorem impl_SortingExchanges.calls (k : Nat) (A0 : Option Addr) (c0 : Nat) (l0 : List (S127)) (A1 : Option Addr) (c1 : Nat) (l1 : List Int) (a2 : Int) (r1 : List Int) (r2 : List Int) (r3 : Bool) (w : World) (hr0 : Kd.C k127 w A0 l0.length l0) (hc0 : l0.length ≤ c0) (hr1 : Kd.C (Kd.int .i64) w A1 l1.length l1) (hc1 : l1.length ≤ c1) (h : impl_SortingExchanges.f k l0 l1 a2 = some (r1, r2, r3)) :
  Calls Try.prog 56 #[.slice A0 l0.length c0, .slice A1 l1.length c1, .int .i64 a2] w fun e w' => ∃ v0_ v1_ : Value, e = .returned (.tuple #[v0_, v1_, .bool r3]) ∧ Kd.R (Kd.int .i64) 3 w' w.heap.size (fun k_ => some k_ ≠ (v1_ : Value).ownBlock) v0_ r1 ∧ Kd.R (Kd.int .i64) 3 w' w.heap.size (fun k_ => some k_ ≠ (v0_ : Value).ownBlock) v1_ r2 ∧ Below w.heap.size w w' := by
 have hu127 := Try.underlying127
 have HR0 := Aside0.mk hr0
 have HC0 := Aside0.mk hc0
 clear hr0 hc0
 have HR1 := Aside0.mk hr1
 have HC1 := Aside0.mk hc1
 clear hr1 hc1
 have HB := Aside0.mk (Below.refl w.heap.size w)
 have H : ((impl_isRuledAndOrdered.f k l0 l1 a2).bind fun t1090 => (if t1090 = true then ((impl_copyInts.f l1).bind fun t1091 => (impl_SortingExchanges.l0 k l0 a2 t1091 ([] : List Int) 0)) else (some (([] : List Int), ([] : List Int), false)))) = some (r1, r2, r3) := h
 clear h
 replace H := Option.bind_eq_some_iff.mp H
 obtain ⟨t1090, A40, H⟩ := H
 replace H : (if t1090 = true then ((impl_copyInts.f l1).bind fun t1091 => (impl_SortingExchanges.l0 k l0 a2 t1091 ([] : List Int) 0)) else (some (([] : List Int), ([] : List Int), false))) = some (r1, r2, r3) := H
 have A4 := Aside0.mk A40
 clear A40
 by_cases c5 : t1090 = true
 ·subst c5
  have H1 : ((impl_copyInts.f l1).bind fun t1091 => (impl_SortingExchanges.l0 k l0 a2 t1091 ([] : List Int) 0)) = some (r1, r2, r3) := by rw [if_pos rfl] at H; exact H
  clear H
  have H := H1
  clear H1
  replace H := Option.bind_eq_some_iff.mp H
  obtain ⟨t1091, A60, H⟩ := H
  replace H : (impl_SortingExchanges.l0 k l0 a2 t1091 ([] : List Int) 0) = some (r1, r2, r3) := H
  have A6 := Aside0.mk A60
  clear A60
  have H' := Aside0.mk H
  clear H
  go_enter Try.func56, Try.ntmps56
  go_wp2_with (first | ((with_reducible refine gate_callee (f := 132) rfl ?_); refine goesL_ (some 15) rfl rfl Try.func132 (by kernel_rfl) rfl #[.slice A0 l0.length c0, .slice A1 l1.length c1, .int .i64 a2] rfl (by (try simp only [List.map_toArray, List.map_cons, List.map_nil]); first | done | rfl | (simp only [List.length_drop, List.length_take]; rfl)) ?_; (with_reducible refine (impl_isRuledAndOrdered.calls k _ _ l0 _ _ l1 a2 true _ ?side1 ?side2 ?side3 ?side4 A4.out).mono ?_); (case side1 => repeat (first | exact HR0.out | (with_reducible refine Kd.C_alloc ?_ _) | (with_reducible refine Kd.C_drewN ?_ _) | (with_reducible refine Kd.C_drew ?_))); (case side2 => exact HC0.out); (case side3 => repeat (first | exact HR1.out | (with_reducible refine Kd.C_alloc ?_ _) | (with_reducible refine Kd.C_drewN ?_ _) | (with_reducible refine Kd.C_drew ?_))); (case side4 => exact HC1.out); rintro e w7 ⟨rfl, hb⟩; refine ⟨_, rfl, ?_⟩; have n0_ := Aside0.mk (below_step (by repeat (first | (with_reducible first | exact HB.out | apply below_alloc | apply pw_below_drewN | apply below_drew1) | exact HB.out)) hb); clear HB; have HB := n0_; clear n0_; (try clear hb); (try clear hb2); (try clear hk); (try clear hi)) | ((with_reducible refine gate_callee (f := 133) rfl ?_); refine goesL_ (some 18) rfl rfl Try.func133 (by kernel_rfl) rfl #[.slice A1 l1.length c1] rfl (by (try simp only [List.map_toArray, List.map_cons, List.map_nil]); first | done | rfl | (simp only [List.length_drop, List.length_take]; rfl)) ?_; (with_reducible refine (impl_copyInts.calls _ _ l1 t1091 _ ?side1 ?side2 A6.out).mono ?_); (case side1 => repeat (first | exact (Kd.C_below HR1.out HB.out) | (with_reducible refine Kd.C_alloc ?_ _) | (with_reducible refine Kd.C_drewN ?_ _) | (with_reducible refine Kd.C_drew ?_))); (case side2 => exact HC1.out); rintro e w8 ⟨v1092, rfl, ho0, hb⟩; refine ⟨_, rfl, ?_⟩; have n0_ := Aside0.mk (Kd.R_lower ho0 (below_size (by repeat (first | (with_reducible first | exact HB.out | apply below_alloc | apply pw_below_drewN | apply below_drew1) | exact HB.out)))); have n1_ := Aside0.mk (below_step (by repeat (first | (with_reducible first | exact HB.out | apply below_alloc | apply pw_below_drewN | apply below_drew1) | exact HB.out)) hb); clear HB; have HO1093 := n0_; have HB := n1_; clear n0_ n1_; (try clear hb); (try clear hb2); (try clear hk); (try clear hi); (try clear ho0)))
  go_loopg [9, 10, 11] k (fun kq v9 v10 v11 w' => ∃ (x9_1 : List Int) (x10_1 : List Int) (x11_1 : Int), v11 = .int .i64 x11_1 ∧ Aside0 (impl_SortingExchanges.l0 kq l0 a2 x9_1 x10_1 x11_1 = some (r1, r2, r3)) ∧ Aside0 (kq ≤ k) ∧ Aside0 (Kd.R (Kd.int .i64) 3 w' w.heap.size (fun k_ => some k_ ≠ (v10 : Value).ownBlock) v9 x9_1) ∧ Aside0 (Kd.R (Kd.int .i64) 3 w' w.heap.size (fun k_ => some k_ ≠ (v9 : Value).ownBlock) v10 x10_1) ∧ Aside0 (Below w.heap.size w w'))
  case atStart => exact ⟨(t1091), (([] : List Int)), (0), (by first | rfl | (simp; done) | (simp [*]; done)), H', ⟨Nat.le_refl _⟩, ⟨by (with_reducible repeat (first | apply Kd.R_alloc | apply Kd.R_drewN | apply Kd.R_drew)); exact Kd.R_mono HO1093.out (fun _ hk => (by simp [Value.ownBlock]))⟩, ⟨by first | exact Kd.R_nil _ _ _ _ _ | exact Kd.N_nil _ _ _ _ _ | exact Kd.V_nil _ _ _ _ _ | exact Kd.Q_nil _ _ _ _ _ | exact Kd.S_nil _ _ _ _ _⟩, ⟨by repeat (first | (with_reducible first | exact HB.out | apply below_alloc | apply pw_below_drewN | apply below_drew1) | exact HB.out)⟩⟩
  case round =>
   clear H'
   try clear c1
   try clear p2
   try clear c5
   obtain ⟨x9_1, x10_1, x11_1, rfl, HA, HK1, HO_9, HO_10, HB⟩ := hrel
   cases gk with
   | zero => exact absurd HA.out (by simp [impl_SortingExchanges.l0])
   | succ k1 =>
    have H := HA.out
    clear HA
    simp only [impl_SortingExchanges.l0] at H
    by_cases c9 : (wrap64 (x11_1 + 1)) < (x9_1.length : Int)
    ·rw [if_pos c9] at H
     have c9b0 : decide ((wrap64 (x11_1 + 1)) < (x9_1.length : Int)) = true := decide_eq_true c9
     clear c9
     obtain ⟨ji10, hji10⟩ : ∃ j_ : Int, (wrap64 (x11_1 + 1)) = j_ := ⟨_, rfl⟩
     replace H : (if 0 ≤ (ji10) then (if 0 ≤ (rd x9_1 (ji10)) then (if (rd x9_1 (ji10)) < (l0.length : Int) then (if 0 ≤ x11_1 then (if x11_1 < (x9_1.length : Int) then (if 0 ≤ (rd x9_1 x11_1) then (if (rd x9_1 x11_1) < (l0.length : Int) then ((impl_difference.f ((rd_T127 l0 (rd x9_1 (ji10))).f0) ((rd_T127 l0 (rd x9_1 (ji10))).f1) ((rd_T127 l0 (rd x9_1 (ji10))).f2) ((rd_T127 l0 (rd x9_1 (ji10))).f3) ((rd_T127 l0 (rd x9_1 x11_1)).f0) ((rd_T127 l0 (rd x9_1 x11_1)).f1) ((rd_T127 l0 (rd x9_1 x11_1)).f2) ((rd_T127 l0 (rd x9_1 x11_1)).f3) a2).bind fun t1098 => (if t1098 ≥ 0 then (impl_SortingExchanges.l0 k1 l0 a2 x9_1 x10_1 ji10) else ((impl_exchanged.f x9_1 x11_1).bind fun t1099 => (if x10_1.length < 17592186044416 then (impl_SortingExchanges.l0 k1 l0 a2 t1099 (x10_1 ++ [x11_1]) 0) else (none))))) else (none)) else (none)) else (none)) else (none)) else (none)) else (none)) else (none)) = some (r1, r2, r3) := by first | (rw [hji10] at H; exact H) | (simp only [hji10] at H ⊢; exact H)
     (try rw [hji10] at c9b0)
     have hji10w : (IntKind.i64.wrap (x11_1 + 1)) = ji10 := (i64_w _).trans hji10
     by_cases c11 : 0 ≤ (ji10)
     ·rw [if_pos c11] at H
      have c11b0 : decide (0 ≤ (ji10)) = true := decide_eq_true c11
      clear c11
      by_cases c12 : 0 ≤ (rd x9_1 (ji10))
      ·rw [if_pos c12] at H
       have c12b0 : decide (0 ≤ (rd x9_1 (ji10))) = true := decide_eq_true c12
       clear c12
       by_cases c13 : (rd x9_1 (ji10)) < (l0.length : Int)
       ·rw [if_pos c13] at H
        have c13b0 : decide ((rd x9_1 (ji10)) < (l0.length : Int)) = true := decide_eq_true c13
        clear c13
        by_cases c14 : 0 ≤ x11_1
        ·rw [if_pos c14] at H
         have c14b0 : decide (0 ≤ x11_1) = true := decide_eq_true c14
         clear c14
         by_cases c15 : x11_1 < (x9_1.length : Int)
         ·rw [if_pos c15] at H
          have c15b0 : decide (x11_1 < (x9_1.length : Int)) = true := decide_eq_true c15
          clear c15
          by_cases c16 : 0 ≤ (rd x9_1 x11_1)
          ·rw [if_pos c16] at H
           have c16b0 : decide (0 ≤ (rd x9_1 x11_1)) = true := decide_eq_true c16
           clear c16
           by_cases c17 : (rd x9_1 x11_1) < (l0.length : Int)
           ·rw [if_pos c17] at H
            have c17b0 : decide ((rd x9_1 x11_1) < (l0.length : Int)) = true := decide_eq_true c17
            clear c17
            replace H := Option.bind_eq_some_iff.mp H
            obtain ⟨t1098, A180, H⟩ := H
            replace H : (if t1098 ≥ 0 then (impl_SortingExchanges.l0 k1 l0 a2 x9_1 x10_1 ji10) else ((impl_exchanged.f x9_1 x11_1).bind fun t1099 => (if x10_1.length < 17592186044416 then (impl_SortingExchanges.l0 k1 l0 a2 t1099 (x10_1 ++ [x11_1]) 0) else (none)))) = some (r1, r2, r3) := H
            have A18 := Aside0.mk A180
            clear A180
            by_cases c19 : t1098 ≥ 0
            ·rw [if_pos c19] at H
             have c19b0 : decide (0 ≤ t1098) = true := decide_eq_true c19
             clear c19
             have H' := Aside0.mk H
             clear H
             obtain ⟨Ao20, co20, eo20⟩ := Kd.R_slice HO_9.out
             subst eo20
             try go_wp2
             have n0_ := Aside0.mk (Kd.R_drew HO_9.out)
             have n1_ := Aside0.mk (Kd.R_drew HO_10.out)
             have n2_ := Aside0.mk (below_drew1 HB.out)
             clear HO_9
             clear HO_10
             clear HB
             have HO_9 := n0_
             have HO_10 := n1_
             have HB := n2_
             clear n0_ n1_ n2_
             have p1094 : 0 ≤ ((ji10) : Int) := of_decide_eq_true (by first | (with_reducible assumption) | assumption)
             have q1094 : (ji10) < (x9_1.length : Int) := of_decide_eq_true (by first | (with_reducible assumption) | assumption)
             obtain ⟨ad1094, e1094, hx1094_0⟩ := Kd.at_int (Kd.R_reads' HO_9.out).2.2 (ji10) p1094 q1094
             cases e1094
             replace p1094 := eq_true p1094
             replace q1094 := eq_true q1094
             have p1095 : 0 ≤ ((rd x9_1 (ji10)) : Int) := of_decide_eq_true (by first | (with_reducible assumption) | assumption)
             have q1095 : (rd x9_1 (ji10)) < (l0.length : Int) := of_decide_eq_true (by first | (with_reducible assumption) | assumption)
             obtain ⟨ad1095, e1095, hx1095_0, hx1095_1, hx1095_2, hx1095_3⟩ := at_T127 HR0.out (rd x9_1 (ji10)) p1095 q1095
             have hw1095_3 := hx1095_3
             have hw1095_2 := hx1095_2
             have hw1095_1 := hx1095_1
             have hw1095_0 := hx1095_0
             cases e1095
             replace hx1095_0 := (HB.out.cell (World.block_lt_of_cell? w _ hx1095_0)).trans hx1095_0
             replace hx1095_1 := (HB.out.cell (World.block_lt_of_cell? w _ hx1095_1)).trans hx1095_1
             replace hx1095_2 := (HB.out.cell (World.block_lt_of_cell? w _ hx1095_2)).trans hx1095_2
             replace hx1095_3 := (HB.out.cell (World.block_lt_of_cell? w _ hx1095_3)).trans hx1095_3
             replace p1095 := eq_true p1095
             replace q1095 := eq_true q1095
             have p1096 : 0 ≤ (x11_1 : Int) := of_decide_eq_true (by first | (with_reducible assumption) | assumption)
             have q1096 : x11_1 < (x9_1.length : Int) := of_decide_eq_true (by first | (with_reducible assumption) | assumption)
             obtain ⟨ad1096, e1096, hx1096_0⟩ := Kd.at_int (Kd.R_reads' HO_9.out).2.2 x11_1 p1096 q1096
             obtain rfl : ad1094 = ad1096 := (by injection e1096)
             replace p1096 := eq_true p1096
             replace q1096 := eq_true q1096
             have p1097 : 0 ≤ ((rd x9_1 x11_1) : Int) := of_decide_eq_true (by first | (with_reducible assumption) | assumption)
             have q1097 : (rd x9_1 x11_1) < (l0.length : Int) := of_decide_eq_true (by first | (with_reducible assumption) | assumption)
             obtain ⟨ad1097, e1097, hx1097_0, hx1097_1, hx1097_2, hx1097_3⟩ := at_T127 HR0.out (rd x9_1 x11_1) p1097 q1097
             have hw1097_3 := hx1097_3
             have hw1097_2 := hx1097_2
             have hw1097_1 := hx1097_1
             have hw1097_0 := hx1097_0
             obtain rfl : ad1095 = ad1097 := (by injection e1097)
             replace hx1097_0 := (HB.out.cell (World.block_lt_of_cell? w _ hx1097_0)).trans hx1097_0
             replace hx1097_1 := (HB.out.cell (World.block_lt_of_cell? w _ hx1097_1)).trans hx1097_1
             replace hx1097_2 := (HB.out.cell (World.block_lt_of_cell? w _ hx1097_2)).trans hx1097_2
             replace hx1097_3 := (HB.out.cell (World.block_lt_of_cell? w _ hx1097_3)).trans hx1097_3
             replace p1097 := eq_true p1097
             replace q1097 := eq_true q1097
             refine start_ (n := 18) (S := fun w' => w'.cell? (ad1094.add ((ji10)).toNat) = some (.int .i64 (rd x9_1 (ji10))) ∧ w'.cell? (ad1095.add (((rd x9_1 (ji10))).toNat * 4)) = some (.int .i64 ((rd_T127 l0 (rd x9_1 (ji10))).f0)) ∧ w'.cell? ⟨(ad1095.add (((rd x9_1 (ji10))).toNat * 4)).block, (ad1095.add (((rd x9_1 (ji10))).toNat * 4)).off + 1, none⟩ = some (.int .i64 ((rd_T127 l0 (rd x9_1 (ji10))).f1)) ∧ w'.cell? ⟨(ad1095.add (((rd x9_1 (ji10))).toNat * 4)).block, (ad1095.add (((rd x9_1 (ji10))).toNat * 4)).off + 2, none⟩ = some (.int .i64 ((rd_T127 l0 (rd x9_1 (ji10))).f2)) ∧ w'.cell? ⟨(ad1095.add (((rd x9_1 (ji10))).toNat * 4)).block, (ad1095.add (((rd x9_1 (ji10))).toNat * 4)).off + 3, none⟩ = some (.int .i64 ((rd_T127 l0 (rd x9_1 (ji10))).f3)) ∧ w'.cell? (ad1094.add (x11_1).toNat) = some (.int .i64 (rd x9_1 x11_1)) ∧ w'.cell? (ad1095.add (((rd x9_1 x11_1)).toNat * 4)) = some (.int .i64 ((rd_T127 l0 (rd x9_1 x11_1)).f0)) ∧ w'.cell? ⟨(ad1095.add (((rd x9_1 x11_1)).toNat * 4)).block, (ad1095.add (((rd x9_1 x11_1)).toNat * 4)).off + 1, none⟩ = some (.int .i64 ((rd_T127 l0 (rd x9_1 x11_1)).f1)) ∧ w'.cell? ⟨(ad1095.add (((rd x9_1 x11_1)).toNat * 4)).block, (ad1095.add (((rd x9_1 x11_1)).toNat * 4)).off + 2, none⟩ = some (.int .i64 ((rd_T127 l0 (rd x9_1 x11_1)).f2)) ∧ w'.cell? ⟨(ad1095.add (((rd x9_1 x11_1)).toNat * 4)).block, (ad1095.add (((rd x9_1 x11_1)).toNat * 4)).off + 3, none⟩ = some (.int .i64 ((rd_T127 l0 (rd x9_1 x11_1)).f3))) (ds := []) q56_0 (by kernel_rfl) rfl rfl ⟨hx1094_0, (bcl_ HB.out hw1095_0), (bcl_ HB.out hw1095_1), (bcl_ HB.out hw1095_2), (bcl_ HB.out hw1095_3), hx1096_0, (bcl_ HB.out hw1097_0), (bcl_ HB.out hw1097_1), (bcl_ HB.out hw1097_2), (bcl_ HB.out hw1097_3)⟩ (fun hHeld => ?_); refine with_tabW impl_SortingExchanges.tab7 impl_SortingExchanges.bits7 (fun HT_ HW_ => ?_)
             generalize wr.drew = w21 at HO_9 HO_10 HB hx1094_0 hx1095_0 hx1095_1 hx1095_2 hx1095_3 hx1096_0 hx1097_0 hx1097_1 hx1097_2 hx1097_3 hHeld ⊢
             refine pure_ (i := 0) (N := some 24) (v := ?_) (a' := ?_) q56_1 rfl rfl (any_of HT_.out (by kernel_rfl)) (fun _ _ _ h => h) (Or.inl ⟨by rfl, ?_⟩) ?_ ?_
             rotate_left
             ·intro w'
              go_simp
              with_reducible rfl
             rotate_left
             ·simp only [aq_]
              rfl
             refine pure_ (i := 1) (N := some 25) (v := ?_) (a' := ?_) q56_2 rfl rfl (any_of HT_.out (by kernel_rfl)) (fun _ _ _ h => h) (Or.inl ⟨by rfl, ?_⟩) ?_ ?_
             rotate_left
             ·intro w'
              go_simp
              with_reducible rfl
             rotate_left
             ·simp only [aq_]
              rfl
             refine pure_ (i := 2) (N := some 26) (v := ?_) (a' := ?_) q56_3 rfl rfl (any_of HT_.out (by kernel_rfl)) (fun _ _ _ h => h) (Or.inl ⟨by rfl, ?_⟩) ?_ ?_
             rotate_left
             ·intro w'
              go_simp
              with_reducible rfl
             rotate_left
             ·simp only [aq_]
              rfl
             refine pure_ (i := 3) (N := some 27) (v := ?_) (a' := ?_) q56_4 rfl rfl (any_of HT_.out (by kernel_rfl)) (fun _ _ _ h => h) (Or.inl ⟨by rfl, ?_⟩) ?_ ?_
             rotate_left
             ·intro w'
              go_simp
              with_reducible rfl
             rotate_left
             ·simp only [aq_]
              rfl
             refine pure_ (i := 4) (N := some 28) (v := ?_) (a' := ?_) q56_5 rfl rfl (any_of HT_.out (by kernel_rfl)) (fun _ _ _ h => h) (Or.inl ⟨by rfl, ?_⟩) ?_ ?_
             rotate_left
             ·intro w'
              go_simp
              with_reducible rfl
             rotate_left
             ·simp only [aq_]
              rfl
             refine pure_ (i := 8) (N := some 32) (v := ?_) (a' := ?_) q56_6 rfl rfl (any_of HT_.out (by kernel_rfl)) (fun _ _ _ h => h) (Or.inl ⟨by rfl, ?_⟩) ?_ ?_
             rotate_left
             ·intro w'
              go_simp
              with_reducible rfl
             rotate_left
             ·simp only [aq_]
              rfl
             refine pure_ (i := 9) (N := some 33) (v := ?_) (a' := ?_) q56_7 rfl rfl (any_of HT_.out (by kernel_rfl)) (fun _ _ _ h => h) (Or.inl ⟨by rfl, ?_⟩) ?_ ?_
             rotate_left
             ·intro w'
              go_simp
              with_reducible rfl
             rotate_left
             ·simp only [aq_]
              rfl
             refine pure_ (i := 10) (N := some 34) (v := ?_) (a' := ?_) q56_8 rfl rfl (any_of HT_.out (by kernel_rfl)) (fun _ _ _ h => h) (Or.inl ⟨by rfl, ?_⟩) ?_ ?_
             rotate_left
             ·intro w'
              go_simp
              with_reducible rfl
             rotate_left
             ·simp only [aq_]
              rfl
             refine pure_ (i := 11) (N := some 35) (v := ?_) (a' := ?_) q56_9 rfl rfl (any_of HT_.out (by kernel_rfl)) (fun _ _ _ h => h) (Or.inl ⟨by rfl, ?_⟩) ?_ ?_
             rotate_left
             ·intro w'
              go_simp
              with_reducible rfl
             rotate_left
             ·simp only [aq_]
              rfl
             refine pure_ (i := 15) (N := some 39) (v := ?_) (a' := ?_) q56_10 rfl rfl (any_of HT_.out (by kernel_rfl)) (fun _ _ _ h => h) (Or.inl ⟨by rfl, ?_⟩) ?_ ?_
             rotate_left
             ·intro w'
              go_simp
              with_reducible rfl
             rotate_left
             ·simp only [aq_]
              rfl
             refine take_ (i := 5) (N := some 29) (v := ?_) (a' := ?_) q56_11 rfl rfl (take_ofW HT_.out HW_.out (by kernel_rfl)) (fun _ _ _ h => h) (Or.inl ⟨by rfl, ?_⟩) hHeld ?_ ?_
             rotate_left
             ·rintro w' ⟨s0, s1, s2, s3, s4, s5, s6, s7, s8, s9⟩
              go_simp
              with_reducible rfl
             rotate_left
             ·simp only [aq_]
              rfl
             refine pure_ (i := 6) (N := some 30) (v := ?_) (a' := ?_) q56_12 rfl rfl (any_of HT_.out (by kernel_rfl)) (fun _ _ _ h => h) (Or.inl ⟨by rfl, ?_⟩) ?_ ?_
             rotate_left
             ·intro w'
              go_simp
              with_reducible rfl
             rotate_left
             ·simp only [aq_]
              rfl
             refine take_ (i := 7) (N := some 31) (v := ?_) (a' := ?_) q56_13 rfl rfl (take_ofW HT_.out HW_.out (by kernel_rfl)) (fun _ _ _ h => h) (Or.inl ⟨by rfl, ?_⟩) hHeld ?_ ?_
             rotate_left
             ·rintro w' ⟨s0, s1, s2, s3, s4, s5, s6, s7, s8, s9⟩
              go_simp
              with_reducible rfl
             rotate_left
             ·simp only [aq_]
              rfl
             refine take_ (i := 12) (N := some 36) (v := ?_) (a' := ?_) q56_14 rfl rfl (take_ofW HT_.out HW_.out (by kernel_rfl)) (fun _ _ _ h => h) (Or.inl ⟨by rfl, ?_⟩) hHeld ?_ ?_
             rotate_left
             ·rintro w' ⟨s0, s1, s2, s3, s4, s5, s6, s7, s8, s9⟩
              go_simp
              with_reducible rfl
             rotate_left
             ·simp only [aq_]
              rfl
             refine pure_ (i := 13) (N := some 37) (v := ?_) (a' := ?_) q56_15 rfl rfl (any_of HT_.out (by kernel_rfl)) (fun _ _ _ h => h) (Or.inl ⟨by rfl, ?_⟩) ?_ ?_
             rotate_left
             ·intro w'
              go_simp
              with_reducible rfl
             rotate_left
             ·simp only [aq_]
              rfl
             refine take_ (i := 14) (N := some 38) (v := ?_) (a' := ?_) q56_16 rfl rfl (take_ofW HT_.out HW_.out (by kernel_rfl)) (fun _ _ _ h => h) (Or.inl ⟨by rfl, ?_⟩) hHeld ?_ ?_
             rotate_left
             ·rintro w' ⟨s0, s1, s2, s3, s4, s5, s6, s7, s8, s9⟩
              go_simp
              with_reducible rfl
             rotate_left
             ·simp only [aq_]
              rfl
             refine one_ (i := 16) (N := some 40) q56_17 rfl rfl (one_of HT_.out (by kernel_rfl)) (by decide) (fun K hK => ?_)
             refine goes_ Try.func134 (by kernel_rfl) rfl #[.agg #[.int .i64 ((rd_T127 l0 (rd x9_1 (ji10))).f0), .int .i64 ((rd_T127 l0 (rd x9_1 (ji10))).f1), .int .i64 ((rd_T127 l0 (rd x9_1 (ji10))).f2), .int .i64 ((rd_T127 l0 (rd x9_1 (ji10))).f3)], .agg #[.int .i64 ((rd_T127 l0 (rd x9_1 x11_1)).f0), .int .i64 ((rd_T127 l0 (rd x9_1 x11_1)).f1), .int .i64 ((rd_T127 l0 (rd x9_1 x11_1)).f2), .int .i64 ((rd_T127 l0 (rd x9_1 x11_1)).f3)], .int .i64 a2] (by rfl) rfl rfl (by (try simp only [List.map_toArray, List.map_cons, List.map_nil]); first | done | (simp only [hji10]; rfl) | rfl | (simp only [List.length_drop, List.length_take]; rfl)) ?_
             with_reducible refine (impl_difference.calls ((rd_T127 l0 (rd x9_1 (ji10))).f0) ((rd_T127 l0 (rd x9_1 (ji10))).f1) ((rd_T127 l0 (rd x9_1 (ji10))).f2) ((rd_T127 l0 (rd x9_1 (ji10))).f3) ((rd_T127 l0 (rd x9_1 x11_1)).f0) ((rd_T127 l0 (rd x9_1 x11_1)).f1) ((rd_T127 l0 (rd x9_1 x11_1)).f2) ((rd_T127 l0 (rd x9_1 x11_1)).f3) a2 t1098 _ A18.out).mono ?_
             rintro e w22 ⟨rfl, hb⟩
             have HS0_ := (hb.cell (World.block_lt_of_cell? _ _ (hHeld.1))).trans (hHeld.1)
             have HS5_ := (hb.cell (World.block_lt_of_cell? _ _ (hHeld.2.2.2.2.2.1))).trans (hHeld.2.2.2.2.2.1)
             refine ⟨_, rfl, ?_⟩
             have n0_ := Aside0.mk (Kd.R_below (by (with_reducible repeat (first | apply Kd.R_alloc | apply Kd.R_drewN | apply Kd.R_drew)); exact HO_9.out) hb)
             have n1_ := Aside0.mk (Kd.R_below (by (with_reducible repeat (first | apply Kd.R_alloc | apply Kd.R_drewN | apply Kd.R_drew)); exact HO_10.out) hb)
             have n2_ := Aside0.mk (below_step (by repeat (first | (with_reducible first | exact HB.out | apply below_alloc | apply pw_below_drewN | apply below_drew1) | exact HB.out)) hb)
             clear HO_9
             clear HO_10
             clear HB
             have HO_9 := n0_
             have HO_10 := n1_
             have HB := n2_
             clear n0_ n1_ n2_
             (try clear hb)
             (try clear hb2)
             (try clear hk)
             (try clear hi)
             refine hK.out _ _ ⟨HS0_, (bcl_ HB.out hw1095_0), (bcl_ HB.out hw1095_1), (bcl_ HB.out hw1095_2), (bcl_ HB.out hw1095_3), HS5_, (bcl_ HB.out hw1097_0), (bcl_ HB.out hw1097_1), (bcl_ HB.out hw1097_2), (bcl_ HB.out hw1097_3)⟩ (fun hHeld => ?_)
             clear hK K
             refine norm_ (a' := ?_) ?_ ?_
             rotate_left
             ·show Act.put _ (some 40) _ = _
              simp only [aq_]
              rfl
             refine pure_ (i := 17) (N := some 41) (v := ?_) (a' := ?_) q56_18 rfl rfl (any_of HT_.out (by kernel_rfl)) (fun _ _ _ h => h) (Or.inl ⟨by rfl, ?_⟩) ?_ ?_
             rotate_left
             ·intro w'
              go_simp
              with_reducible rfl
             rotate_left
             ·simp only [aq_]
              rfl
             refine done_ (done_of HT_.out (by kernel_rfl)) ?_
             try go_wp2
             go_roundg k1
             case measure => have := HK1.out; omega
             case rel => exact ⟨(x9_1), (x10_1), (ji10), (by first | rfl | (simp; done) | (simp only [← hji10] <;> (first | rfl | simp)) | (simp [*]; done)), H', ⟨by have := HK1.out; omega⟩, ⟨by (with_reducible repeat (first | apply Kd.R_alloc | apply Kd.R_drewN | apply Kd.R_drew)); exact HO_9.out⟩, ⟨by (with_reducible repeat (first | apply Kd.R_alloc | apply Kd.R_drewN | apply Kd.R_drew)); exact HO_10.out⟩, ⟨by repeat (first | (with_reducible first | exact HB.out | apply below_alloc | apply pw_below_drewN | apply below_drew1) | exact HB.out)⟩⟩
            ·rw [if_neg c19] at H
             have c19b0 : decide (0 ≤ t1098) = false := decide_eq_false c19
             clear c19
             replace H := Option.bind_eq_some_iff.mp H
             obtain ⟨t1099, A230, H⟩ := H
             replace H : (if x10_1.length < 17592186044416 then (impl_SortingExchanges.l0 k1 l0 a2 t1099 (x10_1 ++ [x11_1]) 0) else (none)) = some (r1, r2, r3) := H
             have A23 := Aside0.mk A230
             clear A230
             by_cases c24 : x10_1.length < 17592186044416
             ·rw [if_pos c24] at H
              have LMc24 := Aside0.mk c24
              clear c24
              obtain ⟨y1102, hy1102⟩ : ∃ y_ : List Int, y_ = (x10_1 ++ [x11_1]) := ⟨_, rfl⟩
              replace H : (impl_SortingExchanges.l0 k1 l0 a2 t1099 y1102 0) = some (r1, r2, r3) := by first | (rw [hy1102]; with_reducible exact H) | (have H2_ := (Option.bind_some _ _).symm.trans H; rw [hy1102]; with_reducible exact H2_) | (have H2_ := (Option.bind_some _ _).symm.trans H; with_reducible exact H2_) | with_reducible exact H | (rw [hy1102]; exact H) | exact H
              have Ny1102 := Aside0.mk hy1102
              clear hy1102
              have H' := Aside0.mk H
              clear H
              obtain ⟨Ao25, co25, eo25⟩ := Kd.R_slice HO_9.out
              subst eo25
              try go_wp2
              have n0_ := Aside0.mk (Kd.R_drew HO_9.out)
              have n1_ := Aside0.mk (Kd.R_drew HO_10.out)
              have n2_ := Aside0.mk (below_drew1 HB.out)
              clear HO_9
              clear HO_10
              clear HB
              have HO_9 := n0_
              have HO_10 := n1_
              have HB := n2_
              clear n0_ n1_ n2_
              have p1094 : 0 ≤ ((ji10) : Int) := of_decide_eq_true (by first | (with_reducible assumption) | assumption)
              have q1094 : (ji10) < (x9_1.length : Int) := of_decide_eq_true (by first | (with_reducible assumption) | assumption)
              obtain ⟨ad1094, e1094, hx1094_0⟩ := Kd.at_int (Kd.R_reads' HO_9.out).2.2 (ji10) p1094 q1094
              cases e1094
              replace p1094 := eq_true p1094
              replace q1094 := eq_true q1094
              have p1095 : 0 ≤ ((rd x9_1 (ji10)) : Int) := of_decide_eq_true (by first | (with_reducible assumption) | assumption)
              have q1095 : (rd x9_1 (ji10)) < (l0.length : Int) := of_decide_eq_true (by first | (with_reducible assumption) | assumption)
              obtain ⟨ad1095, e1095, hx1095_0, hx1095_1, hx1095_2, hx1095_3⟩ := at_T127 HR0.out (rd x9_1 (ji10)) p1095 q1095
              have hw1095_3 := hx1095_3
              have hw1095_2 := hx1095_2
              have hw1095_1 := hx1095_1
              have hw1095_0 := hx1095_0
              cases e1095
              replace hx1095_0 := (HB.out.cell (World.block_lt_of_cell? w _ hx1095_0)).trans hx1095_0
              replace hx1095_1 := (HB.out.cell (World.block_lt_of_cell? w _ hx1095_1)).trans hx1095_1
              replace hx1095_2 := (HB.out.cell (World.block_lt_of_cell? w _ hx1095_2)).trans hx1095_2
              replace hx1095_3 := (HB.out.cell (World.block_lt_of_cell? w _ hx1095_3)).trans hx1095_3
              replace p1095 := eq_true p1095
              replace q1095 := eq_true q1095
              have p1096 : 0 ≤ (x11_1 : Int) := of_decide_eq_true (by first | (with_reducible assumption) | assumption)
              have q1096 : x11_1 < (x9_1.length : Int) := of_decide_eq_true (by first | (with_reducible assumption) | assumption)
              obtain ⟨ad1096, e1096, hx1096_0⟩ := Kd.at_int (Kd.R_reads' HO_9.out).2.2 x11_1 p1096 q1096
              obtain rfl : ad1094 = ad1096 := (by injection e1096)
              replace p1096 := eq_true p1096
              replace q1096 := eq_true q1096
              have p1097 : 0 ≤ ((rd x9_1 x11_1) : Int) := of_decide_eq_true (by first | (with_reducible assumption) | assumption)
              have q1097 : (rd x9_1 x11_1) < (l0.length : Int) := of_decide_eq_true (by first | (with_reducible assumption) | assumption)
              obtain ⟨ad1097, e1097, hx1097_0, hx1097_1, hx1097_2, hx1097_3⟩ := at_T127 HR0.out (rd x9_1 x11_1) p1097 q1097
              have hw1097_3 := hx1097_3
              have hw1097_2 := hx1097_2
              have hw1097_1 := hx1097_1
              have hw1097_0 := hx1097_0
              obtain rfl : ad1095 = ad1097 := (by injection e1097)
              replace hx1097_0 := (HB.out.cell (World.block_lt_of_cell? w _ hx1097_0)).trans hx1097_0
              replace hx1097_1 := (HB.out.cell (World.block_lt_of_cell? w _ hx1097_1)).trans hx1097_1
              replace hx1097_2 := (HB.out.cell (World.block_lt_of_cell? w _ hx1097_2)).trans hx1097_2
              replace hx1097_3 := (HB.out.cell (World.block_lt_of_cell? w _ hx1097_3)).trans hx1097_3
              replace p1097 := eq_true p1097
              replace q1097 := eq_true q1097
              refine start_ (n := 18) (S := fun w' => w'.cell? (ad1094.add ((ji10)).toNat) = some (.int .i64 (rd x9_1 (ji10))) ∧ w'.cell? (ad1095.add (((rd x9_1 (ji10))).toNat * 4)) = some (.int .i64 ((rd_T127 l0 (rd x9_1 (ji10))).f0)) ∧ w'.cell? ⟨(ad1095.add (((rd x9_1 (ji10))).toNat * 4)).block, (ad1095.add (((rd x9_1 (ji10))).toNat * 4)).off + 1, none⟩ = some (.int .i64 ((rd_T127 l0 (rd x9_1 (ji10))).f1)) ∧ w'.cell? ⟨(ad1095.add (((rd x9_1 (ji10))).toNat * 4)).block, (ad1095.add (((rd x9_1 (ji10))).toNat * 4)).off + 2, none⟩ = some (.int .i64 ((rd_T127 l0 (rd x9_1 (ji10))).f2)) ∧ w'.cell? ⟨(ad1095.add (((rd x9_1 (ji10))).toNat * 4)).block, (ad1095.add (((rd x9_1 (ji10))).toNat * 4)).off + 3, none⟩ = some (.int .i64 ((rd_T127 l0 (rd x9_1 (ji10))).f3)) ∧ w'.cell? (ad1094.add (x11_1).toNat) = some (.int .i64 (rd x9_1 x11_1)) ∧ w'.cell? (ad1095.add (((rd x9_1 x11_1)).toNat * 4)) = some (.int .i64 ((rd_T127 l0 (rd x9_1 x11_1)).f0)) ∧ w'.cell? ⟨(ad1095.add (((rd x9_1 x11_1)).toNat * 4)).block, (ad1095.add (((rd x9_1 x11_1)).toNat * 4)).off + 1, none⟩ = some (.int .i64 ((rd_T127 l0 (rd x9_1 x11_1)).f1)) ∧ w'.cell? ⟨(ad1095.add (((rd x9_1 x11_1)).toNat * 4)).block, (ad1095.add (((rd x9_1 x11_1)).toNat * 4)).off + 2, none⟩ = some (.int .i64 ((rd_T127 l0 (rd x9_1 x11_1)).f2)) ∧ w'.cell? ⟨(ad1095.add (((rd x9_1 x11_1)).toNat * 4)).block, (ad1095.add (((rd x9_1 x11_1)).toNat * 4)).off + 3, none⟩ = some (.int .i64 ((rd_T127 l0 (rd x9_1 x11_1)).f3))) (ds := []) q56_0 (by kernel_rfl) rfl rfl ⟨hx1094_0, (bcl_ HB.out hw1095_0), (bcl_ HB.out hw1095_1), (bcl_ HB.out hw1095_2), (bcl_ HB.out hw1095_3), hx1096_0, (bcl_ HB.out hw1097_0), (bcl_ HB.out hw1097_1), (bcl_ HB.out hw1097_2), (bcl_ HB.out hw1097_3)⟩ (fun hHeld => ?_); refine with_tabW impl_SortingExchanges.tab7 impl_SortingExchanges.bits7 (fun HT_ HW_ => ?_)
              generalize wr.drew = w26 at HO_9 HO_10 HB hx1094_0 hx1095_0 hx1095_1 hx1095_2 hx1095_3 hx1096_0 hx1097_0 hx1097_1 hx1097_2 hx1097_3 hHeld ⊢
              refine pure_ (i := 0) (N := some 24) (v := ?_) (a' := ?_) q56_1 rfl rfl (any_of HT_.out (by kernel_rfl)) (fun _ _ _ h => h) (Or.inl ⟨by rfl, ?_⟩) ?_ ?_
              rotate_left
              ·intro w'
               go_simp
               with_reducible rfl
              rotate_left
              ·simp only [aq_]
               rfl
              refine pure_ (i := 1) (N := some 25) (v := ?_) (a' := ?_) q56_2 rfl rfl (any_of HT_.out (by kernel_rfl)) (fun _ _ _ h => h) (Or.inl ⟨by rfl, ?_⟩) ?_ ?_
              rotate_left
              ·intro w'
               go_simp
               with_reducible rfl
              rotate_left
              ·simp only [aq_]
               rfl
              refine pure_ (i := 2) (N := some 26) (v := ?_) (a' := ?_) q56_3 rfl rfl (any_of HT_.out (by kernel_rfl)) (fun _ _ _ h => h) (Or.inl ⟨by rfl, ?_⟩) ?_ ?_
              rotate_left
              ·intro w'
               go_simp
               with_reducible rfl
              rotate_left
              ·simp only [aq_]
               rfl
              refine pure_ (i := 3) (N := some 27) (v := ?_) (a' := ?_) q56_4 rfl rfl (any_of HT_.out (by kernel_rfl)) (fun _ _ _ h => h) (Or.inl ⟨by rfl, ?_⟩) ?_ ?_
              rotate_left
              ·intro w'
               go_simp
               with_reducible rfl
              rotate_left
              ·simp only [aq_]
               rfl
              refine pure_ (i := 4) (N := some 28) (v := ?_) (a' := ?_) q56_5 rfl rfl (any_of HT_.out (by kernel_rfl)) (fun _ _ _ h => h) (Or.inl ⟨by rfl, ?_⟩) ?_ ?_
              rotate_left
              ·intro w'
               go_simp
               with_reducible rfl
              rotate_left
              ·simp only [aq_]
               rfl
              refine pure_ (i := 8) (N := some 32) (v := ?_) (a' := ?_) q56_6 rfl rfl (any_of HT_.out (by kernel_rfl)) (fun _ _ _ h => h) (Or.inl ⟨by rfl, ?_⟩) ?_ ?_
              rotate_left
              ·intro w'
               go_simp
               with_reducible rfl
              rotate_left
              ·simp only [aq_]
               rfl
              refine pure_ (i := 9) (N := some 33) (v := ?_) (a' := ?_) q56_7 rfl rfl (any_of HT_.out (by kernel_rfl)) (fun _ _ _ h => h) (Or.inl ⟨by rfl, ?_⟩) ?_ ?_
              rotate_left
              ·intro w'
               go_simp
               with_reducible rfl
              rotate_left
              ·simp only [aq_]
               rfl
              refine pure_ (i := 10) (N := some 34) (v := ?_) (a' := ?_) q56_8 rfl rfl (any_of HT_.out (by kernel_rfl)) (fun _ _ _ h => h) (Or.inl ⟨by rfl, ?_⟩) ?_ ?_
              rotate_left
              ·intro w'
               go_simp
               with_reducible rfl
              rotate_left
              ·simp only [aq_]
               rfl
              refine pure_ (i := 11) (N := some 35) (v := ?_) (a' := ?_) q56_9 rfl rfl (any_of HT_.out (by kernel_rfl)) (fun _ _ _ h => h) (Or.inl ⟨by rfl, ?_⟩) ?_ ?_
              rotate_left
              ·intro w'
               go_simp
               with_reducible rfl
              rotate_left
              ·simp only [aq_]
               rfl
              refine pure_ (i := 15) (N := some 39) (v := ?_) (a' := ?_) q56_10 rfl rfl (any_of HT_.out (by kernel_rfl)) (fun _ _ _ h => h) (Or.inl ⟨by rfl, ?_⟩) ?_ ?_
              rotate_left
              ·intro w'
               go_simp
               with_reducible rfl
              rotate_left
              ·simp only [aq_]
               rfl
              refine take_ (i := 5) (N := some 29) (v := ?_) (a' := ?_) q56_11 rfl rfl (take_ofW HT_.out HW_.out (by kernel_rfl)) (fun _ _ _ h => h) (Or.inl ⟨by rfl, ?_⟩) hHeld ?_ ?_
              rotate_left
              ·rintro w' ⟨s0, s1, s2, s3, s4, s5, s6, s7, s8, s9⟩
               go_simp
               with_reducible rfl
              rotate_left
              ·simp only [aq_]
               rfl
              refine pure_ (i := 6) (N := some 30) (v := ?_) (a' := ?_) q56_12 rfl rfl (any_of HT_.out (by kernel_rfl)) (fun _ _ _ h => h) (Or.inl ⟨by rfl, ?_⟩) ?_ ?_
              rotate_left
              ·intro w'
               go_simp
               with_reducible rfl
              rotate_left
              ·simp only [aq_]
               rfl
              refine take_ (i := 7) (N := some 31) (v := ?_) (a' := ?_) q56_13 rfl rfl (take_ofW HT_.out HW_.out (by kernel_rfl)) (fun _ _ _ h => h) (Or.inl ⟨by rfl, ?_⟩) hHeld ?_ ?_
              rotate_left
              ·rintro w' ⟨s0, s1, s2, s3, s4, s5, s6, s7, s8, s9⟩
               go_simp
               with_reducible rfl
              rotate_left
              ·simp only [aq_]
               rfl
              refine take_ (i := 12) (N := some 36) (v := ?_) (a' := ?_) q56_14 rfl rfl (take_ofW HT_.out HW_.out (by kernel_rfl)) (fun _ _ _ h => h) (Or.inl ⟨by rfl, ?_⟩) hHeld ?_ ?_
              rotate_left
              ·rintro w' ⟨s0, s1, s2, s3, s4, s5, s6, s7, s8, s9⟩
               go_simp
               with_reducible rfl
              rotate_left
              ·simp only [aq_]
               rfl
              refine pure_ (i := 13) (N := some 37) (v := ?_) (a' := ?_) q56_15 rfl rfl (any_of HT_.out (by kernel_rfl)) (fun _ _ _ h => h) (Or.inl ⟨by rfl, ?_⟩) ?_ ?_
              rotate_left
              ·intro w'
               go_simp
               with_reducible rfl
              rotate_left
              ·simp only [aq_]
               rfl
              refine take_ (i := 14) (N := some 38) (v := ?_) (a' := ?_) q56_16 rfl rfl (take_ofW HT_.out HW_.out (by kernel_rfl)) (fun _ _ _ h => h) (Or.inl ⟨by rfl, ?_⟩) hHeld ?_ ?_
              rotate_left
              ·rintro w' ⟨s0, s1, s2, s3, s4, s5, s6, s7, s8, s9⟩
               go_simp
               with_reducible rfl
              rotate_left
              ·simp only [aq_]
               rfl
              refine one_ (i := 16) (N := some 40) q56_17 rfl rfl (one_of HT_.out (by kernel_rfl)) (by decide) (fun K hK => ?_)
              refine goes_ Try.func134 (by kernel_rfl) rfl #[.agg #[.int .i64 ((rd_T127 l0 (rd x9_1 (ji10))).f0), .int .i64 ((rd_T127 l0 (rd x9_1 (ji10))).f1), .int .i64 ((rd_T127 l0 (rd x9_1 (ji10))).f2), .int .i64 ((rd_T127 l0 (rd x9_1 (ji10))).f3)], .agg #[.int .i64 ((rd_T127 l0 (rd x9_1 x11_1)).f0), .int .i64 ((rd_T127 l0 (rd x9_1 x11_1)).f1), .int .i64 ((rd_T127 l0 (rd x9_1 x11_1)).f2), .int .i64 ((rd_T127 l0 (rd x9_1 x11_1)).f3)], .int .i64 a2] (by rfl) rfl rfl (by (try simp only [List.map_toArray, List.map_cons, List.map_nil]); first | done | (simp only [hji10]; rfl) | rfl | (simp only [List.length_drop, List.length_take]; rfl)) ?_
              with_reducible refine (impl_difference.calls ((rd_T127 l0 (rd x9_1 (ji10))).f0) ((rd_T127 l0 (rd x9_1 (ji10))).f1) ((rd_T127 l0 (rd x9_1 (ji10))).f2) ((rd_T127 l0 (rd x9_1 (ji10))).f3) ((rd_T127 l0 (rd x9_1 x11_1)).f0) ((rd_T127 l0 (rd x9_1 x11_1)).f1) ((rd_T127 l0 (rd x9_1 x11_1)).f2) ((rd_T127 l0 (rd x9_1 x11_1)).f3) a2 t1098 _ A18.out).mono ?_
              rintro e w27 ⟨rfl, hb⟩
              have HS0_ := (hb.cell (World.block_lt_of_cell? _ _ (hHeld.1))).trans (hHeld.1)
              have HS5_ := (hb.cell (World.block_lt_of_cell? _ _ (hHeld.2.2.2.2.2.1))).trans (hHeld.2.2.2.2.2.1)
              refine ⟨_, rfl, ?_⟩
              have n0_ := Aside0.mk (Kd.R_below (by (with_reducible repeat (first | apply Kd.R_alloc | apply Kd.R_drewN | apply Kd.R_drew)); exact HO_9.out) hb)
              have n1_ := Aside0.mk (Kd.R_below (by (with_reducible repeat (first | apply Kd.R_alloc | apply Kd.R_drewN | apply Kd.R_drew)); exact HO_10.out) hb)
              have n2_ := Aside0.mk (below_step (by repeat (first | (with_reducible first | exact HB.out | apply below_alloc | apply pw_below_drewN | apply below_drew1) | exact HB.out)) hb)
              clear HO_9
              clear HO_10
              clear HB
              have HO_9 := n0_
              have HO_10 := n1_
              have HB := n2_
              clear n0_ n1_ n2_
              (try clear hb)
              (try clear hb2)
              (try clear hk)
              (try clear hi)
              refine hK.out _ _ ⟨HS0_, (bcl_ HB.out hw1095_0), (bcl_ HB.out hw1095_1), (bcl_ HB.out hw1095_2), (bcl_ HB.out hw1095_3), HS5_, (bcl_ HB.out hw1097_0), (bcl_ HB.out hw1097_1), (bcl_ HB.out hw1097_2), (bcl_ HB.out hw1097_3)⟩ (fun hHeld => ?_)
              clear hK K
              refine norm_ (a' := ?_) ?_ ?_
              rotate_left
              ·show Act.put _ (some 40) _ = _
               simp only [aq_]
               rfl
              refine pure_ (i := 17) (N := some 41) (v := ?_) (a' := ?_) q56_18 rfl rfl (any_of HT_.out (by kernel_rfl)) (fun _ _ _ h => h) (Or.inl ⟨by rfl, ?_⟩) ?_ ?_
              rotate_left
              ·intro w'
               go_simp
               with_reducible rfl
              rotate_left
              ·simp only [aq_]
               rfl
              refine done_ (done_of HT_.out (by kernel_rfl)) ?_
              try go_wp2_with (first | ((with_reducible refine gate_callee (f := 135) rfl ?_); refine goesL_ (some 46) rfl rfl Try.func135 (by kernel_rfl) rfl #[.slice (some ad1094) x9_1.length co25, .int .i64 x11_1] rfl (by (try simp only [List.map_toArray, List.map_cons, List.map_nil]); first | done | rfl | (simp only [List.length_drop, List.length_take]; rfl)) ?_; (with_reducible refine (impl_exchanged.calls _ _ x9_1 x11_1 t1099 _ ?side1 ?side2 A23.out).mono ?_); (case side1 => repeat (first | exact (Kd.R_reads' HO_9.out).2.2 | (with_reducible refine Kd.C_alloc ?_ _) | (with_reducible refine Kd.C_drewN ?_ _) | (with_reducible refine Kd.C_drew ?_))); (case side2 => exact (Kd.R_reads' HO_9.out).2.1); rintro e w28 ⟨v1100, rfl, ho0, hb⟩; refine ⟨_, rfl, ?_⟩; have n0_ := Aside0.mk (Kd.R_elder' (by (with_reducible repeat (first | apply Kd.R_alloc | apply Kd.R_drewN | apply Kd.R_drew)); exact HO_9.out) (Kd.R_base ho0) hb); have n1_ := Aside0.mk (Kd.R_elder' (by (with_reducible repeat (first | apply Kd.R_alloc | apply Kd.R_drewN | apply Kd.R_drew)); exact HO_10.out) (Kd.R_base ho0) hb); have n2_ := Aside0.mk (Kd.R_lower (Kd.R_new' (Kd.R_new' ho0 (Kd.R_lt (by (with_reducible repeat (first | apply Kd.R_alloc | apply Kd.R_drewN | apply Kd.R_drew)); exact HO_9.out))) (Kd.R_lt (by (with_reducible repeat (first | apply Kd.R_alloc | apply Kd.R_drewN | apply Kd.R_drew)); exact HO_10.out))) (below_size (by repeat (first | (with_reducible first | exact HB.out | apply below_alloc | apply pw_below_drewN | apply below_drew1) | exact HB.out)))); have n3_ := Aside0.mk (below_step (by repeat (first | (with_reducible first | exact HB.out | apply below_alloc | apply pw_below_drewN | apply below_drew1) | exact HB.out)) hb); clear HO_9; clear HO_10; clear HB; have HO_9 := n0_; have HO_10 := n1_; have HO1101 := n2_; have HB := n3_; clear n0_ n1_ n2_ n3_; (try clear hb); (try clear hb2); (try clear hk); (try clear hi); (try clear ho0)) | ((with_reducible refine gate_builtin (b := .append) (xs := #[.tmp 47, .tmp 49]) rfl ?_); at_builtin; refine Kd.R_append (Kd.int .i64) (w0 := w) w.heap.size rfl (.tmp 47) (.tmp 49) 26 3 (.int .i64 0) 8 rfl Try.underlying26 info3 rfl (by decide) (by omega) u10 x10_1 x11_1 [.int .i64 x11_1] (fun k_ => some k_ ≠ (.slice (some ad1094) x9_1.length co25 : Value).ownBlock ∧ some k_ ≠ (v1100 : Value).ownBlock) (fun _ => False) rfl rfl ?aP (fun _ hk => hk.elim) ?aF ?aO ?aB ?aS ?aL ?_; (case aP => exact rfl); (case aB => exact (by repeat (first | (with_reducible first | exact HB.out | apply below_alloc | apply pw_below_drewN | apply below_drew1) | exact HB.out))); (case aF => exact (fun k_ hk => ⟨Kd.fresh' (Kd.R_lt (by (with_reducible repeat (first | apply Kd.R_alloc | apply Kd.R_drewN | apply Kd.R_drew)); exact HO_9.out)) k_ hk, Kd.fresh' (Kd.R_lt (by (with_reducible repeat (first | apply Kd.R_alloc | apply Kd.R_drewN | apply Kd.R_drew)); exact HO1101.out)) k_ hk⟩)); (case aO => exact (by (with_reducible repeat (first | apply Kd.R_alloc | apply Kd.R_drewN | apply Kd.R_drew)); exact HO_10.out)); (case aS => exact (below_size (by repeat (first | (with_reducible first | exact HB.out | apply below_alloc | apply pw_below_drewN | apply below_drew1) | exact HB.out)))); (case aL => have := LMc24.out; omega); intro v1103 w29 ho hb hg hat; rw [← Ny1102.out] at ho; have n0_ := Aside0.mk (Kd.R_after (ok := (fun k_ => some k_ ≠ (v1100 : Value).ownBlock)) (by (with_reducible repeat (first | apply Kd.R_alloc | apply Kd.R_drewN | apply Kd.R_drew)); exact Kd.R_mono HO_9.out (fun _ hk => ⟨hk.2, hk.1⟩)) hg hat); have n1_ := Aside0.mk (Kd.R_after (ok := (fun k_ => some k_ ≠ (.slice (some ad1094) x9_1.length co25 : Value).ownBlock)) (by (with_reducible repeat (first | apply Kd.R_alloc | apply Kd.R_drewN | apply Kd.R_drew)); exact Kd.R_mono HO1101.out (fun _ hk => ⟨hk.1.2, hk.2⟩)) hg hat); have n2_ := Aside0.mk (hb); have n3_ := Aside0.mk (ho); clear HO_9; clear HO1101; clear HB; clear HO_10; have HO_9 := n0_; have HO1101 := n1_; have HB := n2_; have HO1104 := n3_; clear n0_ n1_ n2_ n3_; clear ho hb hg hat))
              go_roundg k1
              case measure => have := HK1.out; omega
              case rel => exact ⟨(t1099), (y1102), (0), (by first | rfl | (simp; done) | (simp [*]; done)), H', ⟨by have := HK1.out; omega⟩, ⟨by (with_reducible repeat (first | apply Kd.R_alloc | apply Kd.R_drewN | apply Kd.R_drew)); exact Kd.R_mono HO1101.out (fun _ hk => hk.2)⟩, ⟨by (with_reducible repeat (first | apply Kd.R_alloc | apply Kd.R_drewN | apply Kd.R_drew)); exact Kd.R_mono HO1104.out (fun _ hk => hk.2)⟩, ⟨by repeat (first | (with_reducible first | exact HB.out | apply below_alloc | apply pw_below_drewN | apply below_drew1) | exact HB.out)⟩⟩
             ·rw [if_neg c24] at H
              exact absurd H (by simp)
           ·rw [if_neg c17] at H
            exact absurd H (by simp)
          ·rw [if_neg c16] at H
           exact absurd H (by simp)
         ·rw [if_neg c15] at H
          exact absurd H (by simp)
        ·rw [if_neg c14] at H
         exact absurd H (by simp)
       ·rw [if_neg c13] at H
        exact absurd H (by simp)
      ·rw [if_neg c12] at H
       exact absurd H (by simp)
     ·rw [if_neg c11] at H
      exact absurd H (by simp)
    ·rw [if_neg c9] at H
     have c9b0 : decide ((wrap64 (x11_1 + 1)) < (x9_1.length : Int)) = false := decide_eq_false c9
     clear c9
     simp only [Option.some.injEq, Prod.mk.injEq] at H
     obtain ⟨rfl, rfl, rfl⟩ := H
     obtain ⟨Ao30, co30, eo30⟩ := Kd.R_slice HO_9.out
     subst eo30
     go_wp2
     go_ret3
     exact ⟨_, _, by first | rfl | (simp [errW_none, errW_some] <;> rfl) | (simp [*, errW_none, errW_some] <;> rfl), by (with_reducible repeat (first | apply Kd.R_alloc | apply Kd.R_drewN | apply Kd.R_drew)); exact HO_10.out, by (with_reducible repeat (first | apply Kd.R_alloc | apply Kd.R_drewN | apply Kd.R_drew)); exact HO_9.out, by repeat (first | (with_reducible first | exact HB.out | apply below_alloc | apply pw_below_drewN | apply below_drew1) | exact HB.out)⟩
 ·replace c5 := Bool.eq_false_iff.mpr c5
  subst c5
  have H1 : (some (([] : List Int), ([] : List Int), false)) = some (r1, r2, r3) := by rw [if_neg (show ¬ (false = true) by decide)] at H; exact H
  clear H
  have H := H1
  clear H1
  simp only [Option.some.injEq, Prod.mk.injEq] at H
  obtain ⟨rfl, rfl, rfl⟩ := H
  go_enter Try.func56, Try.ntmps56
  go_wp2_with (first | ((with_reducible refine gate_callee (f := 132) rfl ?_); refine goesL_ (some 15) rfl rfl Try.func132 (by kernel_rfl) rfl #[.slice A0 l0.length c0, .slice A1 l1.length c1, .int .i64 a2] rfl (by (try simp only [List.map_toArray, List.map_cons, List.map_nil]); first | done | rfl | (simp only [List.length_drop, List.length_take]; rfl)) ?_; (with_reducible refine (impl_isRuledAndOrdered.calls k _ _ l0 _ _ l1 a2 false _ ?side1 ?side2 ?side3 ?side4 A4.out).mono ?_); (case side1 => repeat (first | exact HR0.out | (with_reducible refine Kd.C_alloc ?_ _) | (with_reducible refine Kd.C_drewN ?_ _) | (with_reducible refine Kd.C_drew ?_))); (case side2 => exact HC0.out); (case side3 => repeat (first | exact HR1.out | (with_reducible refine Kd.C_alloc ?_ _) | (with_reducible refine Kd.C_drewN ?_ _) | (with_reducible refine Kd.C_drew ?_))); (case side4 => exact HC1.out); rintro e w31 ⟨rfl, hb⟩; refine ⟨_, rfl, ?_⟩; have n0_ := Aside0.mk (below_step (by repeat (first | (with_reducible first | exact HB.out | apply below_alloc | apply pw_below_drewN | apply below_drew1) | exact HB.out)) hb); clear HB; have HB := n0_; clear n0_; (try clear hb); (try clear hb2); (try clear hk); (try clear hi)))
  go_ret3
  exact ⟨_, _, by first | rfl | (simp [errW_none, errW_some] <;> rfl) | (simp [*, errW_none, errW_some] <;> rfl), by first | exact Kd.R_nil _ _ _ _ _ | exact Kd.N_nil _ _ _ _ _ | exact Kd.V_nil _ _ _ _ _ | exact Kd.Q_nil _ _ _ _ _ | exact Kd.S_nil _ _ _ _ _, by first | exact Kd.R_nil _ _ _ _ _ | exact Kd.N_nil _ _ _ _ _ | exact Kd.V_nil _ _ _ _ _ | exact Kd.Q_nil _ _ _ _ _ | exact Kd.S_nil _ _ _ _ _, by repeat (first | (with_reducible first | exact HB.out | apply below_alloc | apply pw_below_drewN | apply below_drew1) | exact HB.out)⟩

end Go.Proofs.Ytkcnedkgpinabaa.X
