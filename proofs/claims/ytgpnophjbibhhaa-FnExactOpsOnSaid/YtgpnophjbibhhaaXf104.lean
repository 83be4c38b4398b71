-- Written by a program of this session (wip/gen/xp.py, over the kit's printer). Not trusted: Lean checks it.
import Derived.Test.YtgpnophjbibhhaaX0
namespace Go.Proofs.Ytgpnophjbibhhaa.X
open Go.RowKit Go.Proofs.YtgpnophjbibhhaaW.PrintWords Go.Proofs.YtgpnophjbibhhaaW.PrintLast Go.Proofs.YtgpnophjbibhhaaW.PrintMore
attribute [local go_sem] max2_int min2_int max_two min_two max_three min_three max_four min_four   -- for this text's walks alone
set_option linter.unusedVariables false
set_option linter.unusedSimpArgs false

/-! ### impl_flat_on: function 104 -/
def impl_flat_on.l0 : Nat → Int → List Int → List (S133) → Int → Int → Option (List Int)
 | 0, _, _, _, _, _ => none
 | k + 1, x1, x5, x9, x10, x11 => if x11 < x10 then (if 0 ≤ x11 then (if x11 < (x9.length : Int) then (if ((rd_T133 x9 x11).f0) = x1 then (if x5.length < 17592186044416 then (impl_flat_on.l0 k x1 (x5 ++ [x11]) x9 x10 (wrap64 (x11 + 1))) else (none)) else (impl_flat_on.l0 k x1 x5 x9 x10 (wrap64 (x11 + 1)))) else (none)) else (none)) else (some x5)
def impl_flat_on.f (k : Nat) (l0_0 : List (S133)) (l0_1 : List Int) (l0_2 : List Int) (a1 : Int) : Option (List Int) := impl_flat_on.l0 k a1 ([] : List Int) l0_0 (l0_0.length : Int) 0
theorem impl_flat_on.mono_l : ∀ k, (∀ y0 y1 y2 y3 y4, LeO (impl_flat_on.l0 k y0 y1 y2 y3 y4) (impl_flat_on.l0 (k + 1) y0 y1 y2 y3 y4))
 | 0 => fun _ _ _ _ _ r h => by simp [impl_flat_on.l0] at h
 | k + 1 => by
  have ih0 := impl_flat_on.mono_l k
  ·intro y0 y1 y2 y3 y4
   unfold impl_flat_on.l0
   repeat' first
   | (with_reducible exact ih0 _ _ _ _ _)
   | (with_reducible exact LeO.refl _)
   | (with_reducible exact LeO.none _)
   | (with_reducible refine LeO.ite ?_ ?_)
   | (with_reducible refine LeO.bind ?_ (fun _ => ?_))
   | exact ih0 _ _ _ _ _
   | exact LeO.none _
   | refine LeO.ite ?_ ?_
   | refine LeO.bind ?_ (fun _ => ?_)
theorem impl_flat_on.mono : ∀ a0 a1 a2 a3 k, LeO (impl_flat_on.f k a0 a1 a2 a3) (impl_flat_on.f (k + 1) a0 a1 a2 a3) := by
 intro a0 a1 a2 a3 k
 have ih0 := impl_flat_on.mono_l k
 unfold impl_flat_on.f
 repeat' first
   | (with_reducible exact ih0 _ _ _ _ _)
   | (with_reducible exact LeO.refl _)
   | (with_reducible exact LeO.none _)
   | (with_reducible refine LeO.ite ?_ ?_)
   | (with_reducible refine LeO.bind ?_ (fun _ => ?_))
   | exact ih0 _ _ _ _ _
   | exact LeO.none _
   | refine LeO.ite ?_ ?_
   | refine LeO.bind ?_ (fun _ => ?_)
set_option maxHeartbeats 8000000 in
set_option maxRecDepth 100000 in
theorem impl_flat_on.calls (k : Nat) (A0_0 : Option Addr) (c0_0 : Nat) (l0_0 : List (S133)) (A0_1 : Option Addr) (c0_1 : Nat) (l0_1 : List Int) (A0_2 : Option Addr) (c0_2 : Nat) (l0_2 : List Int) (a1 : Int) (r : List Int) (w : World) (hr0_0 : Kd.C k133 w A0_0 l0_0.length l0_0) (hc0_0 : l0_0.length ≤ c0_0) (hr0_1 : Kd.C (Kd.int .i64) w A0_1 l0_1.length l0_1) (hc0_1 : l0_1.length ≤ c0_1) (hr0_2 : Kd.C (Kd.int .i64) w A0_2 l0_2.length l0_2) (hc0_2 : l0_2.length ≤ c0_2) (h : impl_flat_on.f k l0_0 l0_1 l0_2 a1 = some r) :
  Calls Try.prog 104 #[.agg #[.slice A0_0 l0_0.length c0_0, .slice A0_1 l0_1.length c0_1, .slice A0_2 l0_2.length c0_2], .int .i64 a1] w fun e w' => ∃ v0_ : Value, e = .returned (v0_) ∧ Kd.R (Kd.int .i64) 3 w' w.heap.size (fun _ => True) v0_ r ∧ Below w.heap.size w w' := by
 have hu109 := Try.underlying109
 have hu133 := Try.underlying133
 have HR0_0 := Aside0.mk hr0_0
 have HC0_0 := Aside0.mk hc0_0
 clear hr0_0 hc0_0
 have HR0_1 := Aside0.mk hr0_1
 have HC0_1 := Aside0.mk hc0_1
 clear hr0_1 hc0_1
 have HR0_2 := Aside0.mk hr0_2
 have HC0_2 := Aside0.mk hc0_2
 clear hr0_2 hc0_2
 have HB := Aside0.mk (Below.refl w.heap.size w)
 have H : (impl_flat_on.l0 k a1 ([] : List Int) l0_0 (l0_0.length : Int) 0) = some r := h
 clear h
 have H' := Aside0.mk H
 clear H
 go_enter Try.func104, Try.ntmps104
 go_wp2_with (first | ((with_reducible refine gate_dst (N := 2) rfl ?_); refine box_event ?hg (N := 2) ?hd (cs := #[.slice A0_0 l0_0.length c0_0, .slice A0_1 l0_1.length c0_1, .slice A0_2 l0_2.length c0_2]) (t := 109) ?hr ?_; (case hd => rfl); (case hg => rfl); (case hr => first | (go_simp; done) | (go_simp; rfl)); intro gb618 hg w3 hbox hb; have n0_ := Aside0.mk (below_step (bw HB.out) hb); have n1_ := Aside0.mk (hbox); have n2_ := ge_ hg HB.out; have n3_ := ge_ hg HB.out; replace HB := n0_; have BK618 := n1_; have GW618 := n2_; have GE618 := n3_; clear n0_ n1_ n2_ n3_; clear hb hbox hg; obtain ⟨hcz4_0, hcz4_1, hcz4_2, hfz4_0, hfz4_1, hfz4_2⟩ := bz3 BK618.out))
 go_loopg [5, 11] k (fun kq v5 v11 w' => ∃ (x5_1 : List Int) (x11_1 : Int), v11 = .int .i64 x11_1 ∧ Aside0 (impl_flat_on.l0 kq a1 x5_1 l0_0 (l0_0.length : Int) x11_1 = some r) ∧ Aside0 (kq ≤ k) ∧ Aside0 (Kd.R (Kd.int .i64) 3 w' w.heap.size (fun _ => True) v5 x5_1) ∧ Aside0 (w'.heap[gb618]? = some (.cells #[(.slice A0_0 l0_0.length c0_0), (.slice A0_1 l0_1.length c0_1), (.slice A0_2 l0_2.length c0_2)] 109 (0, 0))) ∧ Aside0 (Below w.heap.size w w'))
 case atStart => exact ⟨(([] : List Int)), (0), (by first | rfl | (simp; done) | (simp [*]; done)), H', ⟨Nat.le_refl _⟩, ⟨by first | exact Kd.R_nil _ _ _ _ _ | exact Kd.N_nil _ _ _ _ _ | exact Kd.V_nil _ _ _ _ _ | exact Kd.Q_nil _ _ _ _ _ | exact Kd.S_nil _ _ _ _ _⟩, ⟨bs BK618.out⟩, ⟨by repeat (first | (with_reducible first | exact bw HB.out | refine bset ?_ | apply bA | apply bN | apply bD) | exact HB.out)⟩⟩
 case round =>
  clear H'
  try clear c1
  try clear p2
  try clear hcz4_0
  try clear hcz4_1
  try clear hcz4_2
  try clear hfz4_0
  try clear hfz4_1
  try clear hfz4_2
  obtain ⟨x5_1, x11_1, rfl, HA, HK1, HO_5, BK618, HB⟩ := hrel
  cases gk with
  | zero => exact absurd HA.out (by simp [impl_flat_on.l0])
  | succ k1 =>
   have H := HA.out
   clear HA
   simp only [impl_flat_on.l0] at H
   by_cases c5 : x11_1 < (l0_0.length : Int)
   rotate_left
   ·rw [if_neg c5] at H
    have c5b0 : decide (x11_1 < (l0_0.length : Int)) = false := decide_eq_false c5
    clear c5
    obtain rfl := Option.some.inj H
    go_wp2
    go_ret
    exact ⟨_, by first | rfl | (simp [errW_none, errW_some] <;> rfl) | (simp [*, errW_none, errW_some] <;> rfl), by (with_reducible repeat (first | apply Kd.R_alloc | apply Kd.R_drewN | apply Kd.R_drew)); exact HO_5.out, by repeat (first | (with_reducible first | exact bw HB.out | refine bset ?_ | apply bA | apply bN | apply bD) | exact HB.out)⟩
   rw [if_pos c5] at H
   have c5b0 : decide (x11_1 < (l0_0.length : Int)) = true := decide_eq_true c5
   clear c5
   by_cases c6 : 0 ≤ x11_1
   rotate_left
   ·rw [if_neg c6] at H
    exact absurd H (by simp)
   rw [if_pos c6] at H
   have c6b0 : decide (0 ≤ x11_1) = true := decide_eq_true c6
   clear c6
   by_cases c7 : x11_1 < (l0_0.length : Int)
   rotate_left
   ·rw [if_neg c7] at H
    exact absurd H (by simp)
   rw [if_pos c7] at H
   have c7b0 : decide (x11_1 < (l0_0.length : Int)) = true := decide_eq_true c7
   clear c7
   by_cases c8 : ((rd_T133 l0_0 x11_1).f0) = a1
   rotate_left
   ·rw [if_neg c8] at H
    have c8b0 : (((rd_T133 l0_0 x11_1).f0) == a1) = false := beq_eq_false_iff_ne.mpr c8
    have c8b1 : (((rd_T133 l0_0 x11_1).f0) != a1) = true := bne_iff_ne.mpr c8
    have H' := Aside0.mk H
    clear H
    have p619 : 0 ≤ (x11_1 : Int) := of_decide_eq_true (by first | (with_reducible assumption) | assumption)
    have q619 : x11_1 < (l0_0.length : Int) := of_decide_eq_true (by first | (with_reducible assumption) | assumption)
    obtain ⟨ad619, e619, hx619_0, hx619_1⟩ := at_T133 HR0_0.out x11_1 p619 q619
    cases e619
    replace hx619_0 := (HB.out.cell (World.block_lt_of_cell? w _ hx619_0)).trans hx619_0
    replace hx619_1 := (HB.out.cell (World.block_lt_of_cell? w _ hx619_1)).trans hx619_1
    replace p619 := eq_true p619
    replace q619 := eq_true q619
    go_wp2_with (first | ((with_reducible refine gate_dst (N := 7) rfl ?_); refine box_event ?hg (N := 7) ?hd (cs := #[.int .i64 0, .int .i64 0]) (t := 133) ?hr ?_; (case hd => rfl); (case hg => rfl); (case hr => first | (go_simp; done) | (go_simp; rfl)); intro gb620 hg w14 hbox hb; have n0_ := Aside0.mk (Kd.R_below (bR HO_5.out) hb); have n1_ := Aside0.mk (blk_below (bs BK618.out) hb); have n2_ := Aside0.mk (below_step (by repeat (first | (with_reducible first | exact bw HB.out | refine bset ?_ | apply bA | apply bN | apply bD) | exact HB.out)) hb); have n3_ := Aside0.mk (hbox); have n4_ := Aside0.mk ((by rw [hg]; exact (below_size (by repeat (first | (with_reducible first | exact bw HB.out | refine bset ?_ | apply bA | apply bN | apply bD) | exact HB.out))) : w.heap.size ≤ gb620)); have n5_ := Aside0.mk ((by rw [hg]; exact (below_size (by repeat (first | (with_reducible first | exact bw HB.out | refine bset ?_ | apply bA | apply bN | apply bD) | exact HB.out))) : w.heap.size ≤ gb620)); have n6_ := ne_ hg BK618.out; have n7_ := en_ hg BK618.out; replace HO_5 := n0_; replace BK618 := n1_; replace HB := n2_; have BK620 := n3_; have GW620 := n4_; have GE620 := n5_; have NB618_620 := n6_; have NB620_618 := n7_; clear n0_ n1_ n2_ n3_ n4_ n5_ n6_ n7_; clear hb hbox hg; have hnb15 := NB620_618.out; have hnc15 := NB618_620.out; obtain ⟨hcz16_0, hcz16_1, hfz16_0, hfz16_1⟩ := bz2 BK620.out))
    go_roundg k1
    case measure => have := HK1.out; omega
    case rel => exact ⟨(x5_1), (wrap64 (x11_1 + 1)), (by first | rfl | (simp; done) | (simp [*]; done)), H', ⟨by have := HK1.out; omega⟩, ⟨by (with_reducible repeat (first | apply Kd.R_alloc | apply Kd.R_drewN | apply Kd.R_drew)); exact Kd.R_mono (Kd.R_far (p := ⟨gb620, 1, none⟩) (Kd.R_far (p := ⟨gb620, 0, none⟩) (Kd.R_types HO_5.out BK620.out (by decide)) (fun _ hk => hk.2) (.int .i64 ((rd_T133 l0_0 x11_1).f0))) (fun _ hk => hk.2) (.int .i64 ((rd_T133 l0_0 x11_1).f1))) (fun _ hk => trivial)⟩, ⟨by (with_reducible repeat (first | refine blk_drewN ?_ _ | refine blk_drew ?_ | refine blk_alloc ?_ _)); refine blk_far ?_ NB618_620.out _; (with_reducible repeat (first | refine blk_drewN ?_ _ | refine blk_drew ?_ | refine blk_alloc ?_ _)); refine blk_far ?_ NB618_620.out _; exact bs BK618.out⟩, ⟨by repeat (first | (with_reducible first | exact bw HB.out | refine bset ?_ | apply bA | apply bN | apply bD) | exact HB.out)⟩⟩
   rw [if_pos c8] at H
   have c8b0 : (((rd_T133 l0_0 x11_1).f0) == a1) = true := beq_iff_eq.mpr c8
   have c8b1 : (((rd_T133 l0_0 x11_1).f0) != a1) = false := bne_eq_false_iff_eq.mpr c8
   clear c8
   by_cases c9 : x5_1.length < 17592186044416
   rotate_left
   ·rw [if_neg c9] at H
    exact absurd H (by simp)
   rw [if_pos c9] at H
   have LMc9 := Aside0.mk c9
   clear c9
   obtain ⟨y621, hy621⟩ : ∃ y_ : List Int, y_ = (x5_1 ++ [x11_1]) := ⟨_, rfl⟩
   replace H : (impl_flat_on.l0 k1 a1 y621 l0_0 (l0_0.length : Int) (wrap64 (x11_1 + 1))) = some r := by first | (rw [hy621]; with_reducible exact H) | (have H2_ := (Option.bind_some _ _).symm.trans H; rw [hy621]; with_reducible exact H2_) | (have H2_ := (Option.bind_some _ _).symm.trans H; with_reducible exact H2_) | with_reducible exact H | (rw [hy621]; exact H) | exact H
   have Ny621 := Aside0.mk hy621
   clear hy621
   have H' := Aside0.mk H
   clear H
   have p619 : 0 ≤ (x11_1 : Int) := of_decide_eq_true (by first | (with_reducible assumption) | assumption)
   have q619 : x11_1 < (l0_0.length : Int) := of_decide_eq_true (by first | (with_reducible assumption) | assumption)
   obtain ⟨ad619, e619, hx619_0, hx619_1⟩ := at_T133 HR0_0.out x11_1 p619 q619
   cases e619
   replace hx619_0 := (HB.out.cell (World.block_lt_of_cell? w _ hx619_0)).trans hx619_0
   replace hx619_1 := (HB.out.cell (World.block_lt_of_cell? w _ hx619_1)).trans hx619_1
   replace p619 := eq_true p619
   replace q619 := eq_true q619
   go_wp2_with (first | ((with_reducible refine gate_dst (N := 7) rfl ?_); refine box_event ?hg (N := 7) ?hd (cs := #[.int .i64 0, .int .i64 0]) (t := 133) ?hr ?_; (case hd => rfl); (case hg => rfl); (case hr => first | (go_simp; done) | (go_simp; rfl)); intro gb620 hg w10 hbox hb; have n0_ := Aside0.mk (Kd.R_below (bR HO_5.out) hb); have n1_ := Aside0.mk (blk_below (bs BK618.out) hb); have n2_ := Aside0.mk (below_step (by repeat (first | (with_reducible first | exact bw HB.out | refine bset ?_ | apply bA | apply bN | apply bD) | exact HB.out)) hb); have n3_ := Aside0.mk (hbox); have n4_ := Aside0.mk ((by rw [hg]; exact (below_size (by repeat (first | (with_reducible first | exact bw HB.out | refine bset ?_ | apply bA | apply bN | apply bD) | exact HB.out))) : w.heap.size ≤ gb620)); have n5_ := Aside0.mk ((by rw [hg]; exact (below_size (by repeat (first | (with_reducible first | exact bw HB.out | refine bset ?_ | apply bA | apply bN | apply bD) | exact HB.out))) : w.heap.size ≤ gb620)); have n6_ := ne_ hg BK618.out; have n7_ := en_ hg BK618.out; replace HO_5 := n0_; replace BK618 := n1_; replace HB := n2_; have BK620 := n3_; have GW620 := n4_; have GE620 := n5_; have NB618_620 := n6_; have NB620_618 := n7_; clear n0_ n1_ n2_ n3_ n4_ n5_ n6_ n7_; clear hb hbox hg; have hnb11 := NB620_618.out; have hnc11 := NB618_620.out; obtain ⟨hcz12_0, hcz12_1, hfz12_0, hfz12_1⟩ := bz2 BK620.out) | ((with_reducible refine gate_builtin (b := .append) (xs := #[.tmp 20, .tmp 22]) rfl ?_); at_builtin; refine Kd.R_append (Kd.int .i64) (w0 := w) w.heap.size rfl (.tmp 20) (.tmp 22) 23 3 (.int .i64 0) 8 rfl Try.underlying23 info3 rfl (by decide) (by omega) u5 x5_1 x11_1 [.int .i64 x11_1] (fun _ => True) (fun _ => False) rfl (by first | (go_simp; done) | (go_simp; rfl)) ?aP (fun _ hk => hk.elim) ?aF ?aO ?aB ?aS ?aL ?_; (case aP => exact rfl); (case aB => exact (by repeat (first | (with_reducible first | exact bw HB.out | refine bset ?_ | apply bA | apply bN | apply bD) | exact HB.out))); (case aF => exact (fun _ _ => trivial)); (case aO => exact (by (with_reducible repeat (first | apply Kd.R_alloc | apply Kd.R_drewN | apply Kd.R_drew)); exact Kd.R_mono (Kd.R_far (p := ⟨gb620, 1, none⟩) (Kd.R_far (p := ⟨gb620, 0, none⟩) (Kd.R_types HO_5.out BK620.out (by decide)) (fun _ hk => hk.2) (.int .i64 ((rd_T133 l0_0 x11_1).f0))) (fun _ hk => hk.2) (.int .i64 ((rd_T133 l0_0 x11_1).f1))) (fun _ hk => trivial))); (case aS => exact (below_size (by repeat (first | (with_reducible first | exact bw HB.out | refine bset ?_ | apply bA | apply bN | apply bD) | exact HB.out)))); (case aL => have := LMc9.out; omega); intro v622 w13 ho hb hg hat; rw [← Ny621.out] at ho; have n0_ := Aside0.mk (blk_grown (g := gb618) (o := .cells #[.slice (some ad619) l0_0.length c0_0, .slice A0_1 l0_1.length c0_1, .slice A0_2 l0_2.length c0_2] 109 (0, 0)) (by (with_reducible repeat (first | refine blk_drewN ?_ _ | refine blk_drew ?_ | refine blk_alloc ?_ _)); refine blk_far ?_ NB618_620.out _; (with_reducible repeat (first | refine blk_drewN ?_ _ | refine blk_drew ?_ | refine blk_alloc ?_ _)); refine blk_far ?_ NB618_620.out _; exact bs BK618.out) hg (Kd.R_ne HO_5.out BK618.out (by decide))); have n1_ := Aside0.mk (blk_grown (g := gb620) (o := .cells #[.int .i64 ((rd_T133 l0_0 x11_1).f0), .int .i64 ((rd_T133 l0_0 x11_1).f1)] 133 (0, 0)) (by (with_reducible repeat (first | refine blk_drewN ?_ _ | refine blk_drew ?_ | refine blk_alloc ?_ _)); refine blk_put (cs := #[.int .i64 ((rd_T133 l0_0 x11_1).f0), .int .i64 0]) ?_ 1 _ rfl; (with_reducible repeat (first | refine blk_drewN ?_ _ | refine blk_drew ?_ | refine blk_alloc ?_ _)); refine blk_put (cs := #[.int .i64 0, .int .i64 0]) ?_ 0 _ rfl; exact bs BK620.out) hg (Kd.R_ne HO_5.out BK620.out (by decide))); have n2_ := Aside0.mk (hb); have n3_ := Aside0.mk (ho); clear HO_5; replace BK618 := n0_; replace BK620 := n1_; replace HB := n2_; have HO623 := n3_; clear n0_ n1_ n2_ n3_; clear ho hb hg hat))
   go_roundg k1
   case measure => have := HK1.out; omega
   case rel => exact ⟨(y621), (wrap64 (x11_1 + 1)), (by first | rfl | (simp; done) | (simp [*]; done)), H', ⟨by have := HK1.out; omega⟩, ⟨bR HO623.out⟩, ⟨bs BK618.out⟩, ⟨by repeat (first | (with_reducible first | exact bw HB.out | refine bset ?_ | apply bA | apply bN | apply bD) | exact HB.out)⟩⟩

end Go.Proofs.Ytgpnophjbibhhaa.X
