-- Written by a program of this session (wip/gen/xp.py, over the kit's printer). Not trusted: Lean checks it.
import Derived.Test.YtgpnophjbibhhaaX0
import Derived.Test.YtgpnophjbibhhaaXf101
import Derived.Test.YtgpnophjbibhhaaXf103
import Derived.Test.YtgpnophjbibhhaaXf104
import Derived.Test.YtgpnophjbibhhaaXf21
import Derived.Test.YtgpnophjbibhhaaXf28
import Derived.Test.YtgpnophjbibhhaaXf31
import Derived.Test.YtgpnophjbibhhaaXf36
import Derived.Test.YtgpnophjbibhhaaXf37
import Derived.Test.YtgpnophjbibhhaaXf42
namespace Go.Proofs.Ytgpnophjbibhhaa.X
open Go.RowKit Go.Proofs.YtgpnophjbibhhaaW.PrintWords Go.Proofs.YtgpnophjbibhhaaW.PrintLast Go.Proofs.YtgpnophjbibhhaaW.PrintMore
attribute [local go_sem] max2_int min2_int max_two min_two max_three min_three max_four min_four   -- for this text's walks alone
set_option linter.unusedVariables false
set_option linter.unusedSimpArgs false

/-! ### spec_l9All: function 154 -/
def spec_l9All.l0 : Nat → List (S133) → Int → Int → List (List (S133)) → Option ((List (S133)))
 | 0, _, _, _, _ => none
 | k + 1, x3, x4, x588000, x588001 => if x4 < (x588001.length : Int) then (if 0 ≤ x4 then (if x3.length + (rd_L11 x588001 x4).length < 8796093022208 then (spec_l9All.l0 k (x3 ++ (rd_L11 x588001 x4)) (wrap64 (x4 + 1)) x588000 x588001) else (none)) else (none)) else (some x3)
def spec_l9All.f (k : Nat) (a0_0 : Int) (l0_1 : List (List (S133))) : Option ((List (S133))) := spec_l9All.l0 k (([] : List (S133))) 0 a0_0 l0_1
theorem spec_l9All.mono_l : ∀ k, (∀ y0 y1 y2 y3, LeO (spec_l9All.l0 k y0 y1 y2 y3) (spec_l9All.l0 (k + 1) y0 y1 y2 y3))
 | 0 => fun _ _ _ _ r h => by simp [spec_l9All.l0] at h
 | k + 1 => by
  have ih0 := spec_l9All.mono_l k
  ·intro y0 y1 y2 y3
   unfold spec_l9All.l0
   repeat' first
   | (with_reducible exact ih0 _ _ _ _)
   | (with_reducible exact LeO.refl _)
   | (with_reducible exact LeO.none _)
   | (with_reducible refine LeO.ite ?_ ?_)
   | (with_reducible refine LeO.bind ?_ (fun _ => ?_))
   | exact ih0 _ _ _ _
   | exact LeO.none _
   | refine LeO.ite ?_ ?_
   | refine LeO.bind ?_ (fun _ => ?_)
theorem spec_l9All.mono : ∀ a0 a1 k, LeO (spec_l9All.f k a0 a1) (spec_l9All.f (k + 1) a0 a1) := by
 intro a0 a1 k
 have ih0 := spec_l9All.mono_l k
 unfold spec_l9All.f
 repeat' first
   | (with_reducible exact ih0 _ _ _ _)
   | (with_reducible exact LeO.refl _)
   | (with_reducible exact LeO.none _)
   | (with_reducible refine LeO.ite ?_ ?_)
   | (with_reducible refine LeO.bind ?_ (fun _ => ?_))
   | exact ih0 _ _ _ _
   | exact LeO.none _
   | refine LeO.ite ?_ ?_
   | refine LeO.bind ?_ (fun _ => ?_)
set_option maxHeartbeats 8000000 in
set_option maxRecDepth 100000 in
theorem spec_l9All.calls (k : Nat) (a0_0 : Int) (A0_1 : Option Addr) (c0_1 : Nat) (l0_1 : List (List (S133))) (r : List (S133)) (w : World) (hr0_1 : Kd.C (Kd.slice 133 k133) w A0_1 l0_1.length l0_1) (hc0_1 : l0_1.length ≤ c0_1) (h : spec_l9All.f k a0_0 l0_1 = some r) :
  Calls Try.prog 154 #[.agg #[.int .i64 a0_0, .slice A0_1 l0_1.length c0_1]] w fun e w' => ∃ v0_ : Value, e = .returned (v0_) ∧ Kd.R k133 133 w' w.heap.size (fun _ => True) v0_ r ∧ Below w.heap.size w w' := by
 have hu51 := Try.underlying51
 have HR0_1 := Aside0.mk hr0_1
 have HC0_1 := Aside0.mk hc0_1
 clear hr0_1 hc0_1
 have HB := Aside0.mk (Below.refl w.heap.size w)
 have H : (spec_l9All.l0 k (([] : List (S133))) 0 a0_0 l0_1) = some r := h
 clear h
 obtain ⟨y588, hy588⟩ : ∃ y_ : List (S133), y_ = (([] : List (S133))) := ⟨_, rfl⟩
 replace H : (spec_l9All.l0 k y588 0 a0_0 l0_1) = some r := by first | (rw [hy588]; with_reducible exact H) | (have H2_ := (Option.bind_some _ _).symm.trans H; rw [hy588]; with_reducible exact H2_) | (have H2_ := (Option.bind_some _ _).symm.trans H; with_reducible exact H2_) | with_reducible exact H | (rw [hy588]; exact H) | exact H
 have Ny588 := Aside0.mk hy588
 clear hy588
 have H' := Aside0.mk H
 clear H
 go_enter Try.func154, Try.ntmps154
 go_wp2_with (first | ((with_reducible refine gate_dst (N := 1) rfl ?_); refine box_event ?hg (N := 1) ?hd (cs := #[.int .i64 a0_0, .slice A0_1 l0_1.length c0_1]) (t := 51) ?hr ?_; (case hd => rfl); (case hg => rfl); (case hr => first | (go_simp; done) | (go_simp; rfl)); intro gb587 hg w2 hbox hb; have n0_ := Aside0.mk (below_step (bw HB.out) hb); have n1_ := Aside0.mk (hbox); have n2_ := ge_ hg HB.out; have n3_ := ge_ hg HB.out; replace HB := n0_; have BK587 := n1_; have GW587 := n2_; have GE587 := n3_; clear n0_ n1_ n2_ n3_; clear hb hbox hg) | ((with_reducible refine gate_dst (N := 5) rfl ?_); refine Kd.R_lit k133 _ 133 ?hg (N := 5) ?hd (xs := ([] : List (S133))) (inner := []) (ok := fun _ => True) (okp := fun _ => True) ?hr ?hp (fun _ hk => hk) trivial (Below.refl _ _) (Nat.le_refl _) (by simp) ?_; (case hd => rfl); (case hg => rfl); (case hr => first | (go_simp; done) | (go_simp; rfl)); (case hp => exact (Reps.none _ _)); intro v589 w3 ho4 hb hg_ hnew_; clear hg_ hnew_; (first | rw [← Ny588.out] at ho4 | (simp only [Int.reduceToNat] at ho4; rw [← Ny588.out] at ho4)); have n0_ := Aside0.mk (Kd.R_lower ho4 (below_size (by repeat (first | (with_reducible first | exact bw HB.out | refine bset ?_ | apply bA | apply bN | apply bD) | exact HB.out)))); have n1_ := Aside0.mk (blk_below (bs BK587.out) hb); have n2_ := Aside0.mk (below_step (by repeat (first | (with_reducible first | exact bw HB.out | refine bset ?_ | apply bA | apply bN | apply bD) | exact HB.out)) hb); have HO590 := n0_; replace BK587 := n1_; replace HB := n2_; clear n0_ n1_ n2_; clear hb ho4))
 go_loopg [3, 4] k (fun kq v3 v4 w' => ∃ (x3_1 : List (S133)) (x4_1 : Int), v4 = .int .i64 x4_1 ∧ Aside0 (spec_l9All.l0 kq x3_1 x4_1 a0_0 l0_1 = some r) ∧ Aside0 (kq ≤ k) ∧ Aside0 (Kd.R k133 133 w' w.heap.size (fun _ => True) v3 x3_1) ∧ Aside0 (w'.heap[gb587]? = some (.cells #[.int .i64 a0_0, (.slice A0_1 l0_1.length c0_1)] 51 (0, 0))) ∧ Aside0 (Below w.heap.size w w'))
 case atStart => exact ⟨(y588), (0), (by first | rfl | (simp; done) | (simp [*]; done)), H', ⟨Nat.le_refl _⟩, ⟨bR HO590.out⟩, ⟨bs BK587.out⟩, ⟨by repeat (first | (with_reducible first | exact bw HB.out | refine bset ?_ | apply bA | apply bN | apply bD) | exact HB.out)⟩⟩
 case round =>
  clear H'
  try clear c1
  try clear p2
  obtain ⟨x3_1, x4_1, rfl, HA, HK1, HO_3, BK587, HB⟩ := hrel
  cases gk with
  | zero => exact absurd HA.out (by simp [spec_l9All.l0])
  | succ k1 =>
   have H := HA.out
   clear HA
   simp only [spec_l9All.l0] at H
   by_cases c5 : x4_1 < (l0_1.length : Int)
   rotate_left
   ·rw [if_neg c5] at H
    have c5b0 : decide (x4_1 < (l0_1.length : Int)) = false := decide_eq_false c5
    clear c5
    obtain rfl := Option.some.inj H
    obtain ⟨hcz10_0, hcz10_1, hfz10_0, hfz10_1⟩ := bz2 BK587.out
    go_wp2
    go_ret
    exact ⟨_, by first | rfl | (simp [errW_none, errW_some] <;> rfl) | (simp [*, errW_none, errW_some] <;> rfl), by (with_reducible repeat (first | apply Kd.R_alloc | apply Kd.R_drewN | apply Kd.R_drew)); exact HO_3.out, by repeat (first | (with_reducible first | exact bw HB.out | refine bset ?_ | apply bA | apply bN | apply bD) | exact HB.out)⟩
   rw [if_pos c5] at H
   have c5b0 : decide (x4_1 < (l0_1.length : Int)) = true := decide_eq_true c5
   clear c5
   by_cases c6 : 0 ≤ x4_1
   rotate_left
   ·rw [if_neg c6] at H
    exact absurd H (by simp)
   rw [if_pos c6] at H
   have c6b0 : decide (0 ≤ x4_1) = true := decide_eq_true c6
   clear c6
   by_cases c7 : x3_1.length + (rd_L11 l0_1 x4_1).length < 8796093022208
   rotate_left
   ·rw [if_neg c7] at H
    exact absurd H (by simp)
   rw [if_pos c7] at H
   have LMc7 := Aside0.mk c7
   clear c7
   obtain ⟨y592, hy592⟩ : ∃ y_ : List (S133), y_ = (x3_1 ++ (rd_L11 l0_1 x4_1)) := ⟨_, rfl⟩
   replace H : (spec_l9All.l0 k1 y592 (wrap64 (x4_1 + 1)) a0_0 l0_1) = some r := by first | (rw [hy592]; with_reducible exact H) | (have H2_ := (Option.bind_some _ _).symm.trans H; rw [hy592]; with_reducible exact H2_) | (have H2_ := (Option.bind_some _ _).symm.trans H; with_reducible exact H2_) | with_reducible exact H | (rw [hy592]; exact H) | exact H
   have Ny592 := Aside0.mk hy592
   clear hy592
   have H' := Aside0.mk H
   clear H
   obtain ⟨hcz8_0, hcz8_1, hfz8_0, hfz8_1⟩ := bz2 BK587.out
   have p591 : 0 ≤ (x4_1 : Int) := of_decide_eq_true (by first | (with_reducible assumption) | assumption)
   have q591 : x4_1 < (l0_1.length : Int) := of_decide_eq_true (by first | (with_reducible assumption) | assumption)
   obtain ⟨ad591, A591_0, c591_0, e591, hx591_0, hl591_0, hi591_0⟩ := at_L11 HR0_1.out x4_1 p591 q591
   cases e591
   replace hx591_0 := (HB.out.cell (World.block_lt_of_cell? w _ hx591_0)).trans hx591_0
   have HR591_0 := Aside0.mk hi591_0
   have HC591_0 := Aside0.mk hl591_0
   clear hi591_0 hl591_0
   replace p591 := eq_true p591
   replace q591 := eq_true q591
   go_wp2_with (first | ((with_reducible refine gate_builtin (b := .append) (xs := #[.tmp 13, .tmp 18]) rfl ?_); at_builtin; refine Kd.R_append_rows k133 (w0 := w) w.heap.size rfl (.tmp 13) (.tmp 18) 107 133 (.agg #[(.int .i64 0), (.int .i64 0)]) 16 rfl Try.underlying107 info133 rfl (by decide) (by omega) u3 x3_1 (rd_L11 l0_1 x4_1) _ _ _ (fun _ => True) (fun _ => False) rfl rfl ?aO ?aR (fun _ _ h => h) (fun _ h => h.elim) ?aF ?aB ?aS ?aL ?_; (case aR => first | exact bC HR591_0.out HB.out | exact Kd.C_below HR591_0.out HB.out); (case aB => exact (by repeat (first | (with_reducible first | exact bw HB.out | refine bset ?_ | apply bA | apply bN | apply bD) | exact HB.out))); (case aF => exact (fun _ _ => trivial)); (case aO => exact (bR HO_3.out)); (case aS => exact (below_size (by repeat (first | (with_reducible first | exact bw HB.out | refine bset ?_ | apply bA | apply bN | apply bD) | exact HB.out)))); (case aL => have := LMc7.out; omega); intro v593 w9 ho hb hg hat; rw [← Ny592.out] at ho; have n0_ := Aside0.mk (blk_grown (bs BK587.out) hg (Kd.R_ne HO_3.out BK587.out (by decide))); have n1_ := Aside0.mk (hb); have n2_ := Aside0.mk (ho); clear HO_3; replace BK587 := n0_; replace HB := n1_; have HO594 := n2_; clear n0_ n1_ n2_; clear ho hb hg hat))
   go_roundg k1
   case measure => have := HK1.out; omega
   case rel => exact ⟨(y592), (wrap64 (x4_1 + 1)), (by first | rfl | (simp; done) | (simp [*]; done)), H', ⟨by have := HK1.out; omega⟩, ⟨bR HO594.out⟩, ⟨bs BK587.out⟩, ⟨by repeat (first | (with_reducible first | exact bw HB.out | refine bset ?_ | apply bA | apply bN | apply bD) | exact HB.out)⟩⟩

/-! ### spec_l9On: function 102 -/
def spec_l9On.l0 : Nat → Int → List Int → List (S133) → Int → Option (List Int)
 | 0, _, _, _, _ => none
 | k + 1, x1, x5, x6, x7 => if x7 < (x6.length : Int) then (if 0 ≤ x7 then (if ((rd_T133 x6 x7).f0) = x1 then (if x5.length < 17592186044416 then (spec_l9On.l0 k x1 (x5 ++ [x7]) x6 (wrap64 (x7 + 1))) else (none)) else (spec_l9On.l0 k x1 x5 x6 (wrap64 (x7 + 1)))) else (none)) else (some x5)
def spec_l9On.f (k : Nat) (a0_0 : Int) (l0_1 : List (List (S133))) (a1 : Int) : Option (List Int) := (spec_l9All.f k a0_0 l0_1).bind fun t599 => (spec_l9On.l0 k a1 (([] : List Int)) t599 0)
theorem spec_l9On.mono_l : ∀ k, (∀ y0 y1 y2 y3, LeO (spec_l9On.l0 k y0 y1 y2 y3) (spec_l9On.l0 (k + 1) y0 y1 y2 y3))
 | 0 => fun _ _ _ _ r h => by simp [spec_l9On.l0] at h
 | k + 1 => by
  have ih0 := spec_l9On.mono_l k
  ·intro y0 y1 y2 y3
   unfold spec_l9On.l0
   repeat' first
   | (with_reducible exact ih0 _ _ _ _)
   | (with_reducible exact spec_l9All.mono _ _ _)
   | (with_reducible exact LeO.refl _)
   | (with_reducible exact LeO.none _)
   | (with_reducible refine LeO.ite ?_ ?_)
   | (with_reducible refine LeO.bind ?_ (fun _ => ?_))
   | exact ih0 _ _ _ _
   | exact spec_l9All.mono _ _ _
   | exact LeO.none _
   | refine LeO.ite ?_ ?_
   | refine LeO.bind ?_ (fun _ => ?_)
theorem spec_l9On.mono : ∀ a0 a1 a2 k, LeO (spec_l9On.f k a0 a1 a2) (spec_l9On.f (k + 1) a0 a1 a2) := by
 intro a0 a1 a2 k
 have ih0 := spec_l9On.mono_l k
 unfold spec_l9On.f
 repeat' first
   | (with_reducible exact ih0 _ _ _ _)
   | (with_reducible exact spec_l9All.mono _ _ _)
   | (with_reducible exact LeO.refl _)
   | (with_reducible exact LeO.none _)
   | (with_reducible refine LeO.ite ?_ ?_)
   | (with_reducible refine LeO.bind ?_ (fun _ => ?_))
   | exact ih0 _ _ _ _
   | exact spec_l9All.mono _ _ _
   | exact LeO.none _
   | refine LeO.ite ?_ ?_
   | refine LeO.bind ?_ (fun _ => ?_)
set_option maxHeartbeats 8000000 in
set_option maxRecDepth 100000 in
theorem spec_l9On.calls (k : Nat) (a0_0 : Int) (A0_1 : Option Addr) (c0_1 : Nat) (l0_1 : List (List (S133))) (a1 : Int) (r : List Int) (w : World) (hr0_1 : Kd.C (Kd.slice 133 k133) w A0_1 l0_1.length l0_1) (hc0_1 : l0_1.length ≤ c0_1) (h : spec_l9On.f k a0_0 l0_1 a1 = some r) :
  Calls Try.prog 102 #[.agg #[.int .i64 a0_0, .slice A0_1 l0_1.length c0_1], .int .i64 a1] w fun e w' => ∃ v0_ : Value, e = .returned (v0_) ∧ Kd.R (Kd.int .i64) 3 w' w.heap.size (fun _ => True) v0_ r ∧ Below w.heap.size w w' := by
 have hu51 := Try.underlying51
 have HR0_1 := Aside0.mk hr0_1
 have HC0_1 := Aside0.mk hc0_1
 clear hr0_1 hc0_1
 have HB := Aside0.mk (Below.refl w.heap.size w)
 have H : ((spec_l9All.f k a0_0 l0_1).bind fun t599 => (spec_l9On.l0 k a1 (([] : List Int)) t599 0)) = some r := h
 clear h
 obtain ⟨y596, hy596⟩ : ∃ y_ : List Int, y_ = (([] : List Int)) := ⟨_, rfl⟩
 replace H : ((spec_l9All.f k a0_0 l0_1).bind fun t599 => (spec_l9On.l0 k a1 y596 t599 0)) = some r := by first | (rw [hy596]; with_reducible exact H) | (have H2_ := (Option.bind_some _ _).symm.trans H; rw [hy596]; with_reducible exact H2_) | (have H2_ := (Option.bind_some _ _).symm.trans H; with_reducible exact H2_) | with_reducible exact H | (rw [hy596]; exact H) | exact H
 have Ny596 := Aside0.mk hy596
 clear hy596
 replace H := Option.bind_eq_some_iff.mp H
 obtain ⟨t599, A30, H⟩ := H
 replace H : (spec_l9On.l0 k a1 y596 t599 0) = some r := H
 have A3 := Aside0.mk A30
 clear A30
 have H' := Aside0.mk H
 clear H
 go_enter Try.func102, Try.ntmps102
 go_wp2_with (first | ((with_reducible refine gate_dst (N := 2) rfl ?_); refine box_event ?hg (N := 2) ?hd (cs := #[.int .i64 a0_0, .slice A0_1 l0_1.length c0_1]) (t := 51) ?hr ?_; (case hd => rfl); (case hg => rfl); (case hr => first | (go_simp; done) | (go_simp; rfl)); intro gb595 hg w4 hbox hb; have n0_ := Aside0.mk (below_step (bw HB.out) hb); have n1_ := Aside0.mk (hbox); have n2_ := ge_ hg HB.out; have n3_ := ge_ hg HB.out; replace HB := n0_; have BK595 := n1_; have GW595 := n2_; have GE595 := n3_; clear n0_ n1_ n2_ n3_; clear hb hbox hg) | ((with_reducible refine gate_dst (N := 8) rfl ?_); refine Kd.R_lit (Kd.int .i64) _ 3 ?hg (N := 8) ?hd (xs := ([] : List Int)) (inner := []) (ok := fun _ => True) (okp := fun _ => True) ?hr ?hp (fun _ hk => hk) trivial (Below.refl _ _) (Nat.le_refl _) (by simp) ?_; (case hd => rfl); (case hg => rfl); (case hr => first | (go_simp; done) | (go_simp; rfl)); (case hp => exact (Reps.none _ _)); intro v597 w5 ho6 hb hg_ hnew_; clear hg_ hnew_; (first | rw [← Ny596.out] at ho6 | (simp only [Int.reduceToNat] at ho6; rw [← Ny596.out] at ho6)); have n0_ := Aside0.mk (Kd.R_lower ho6 (below_size (by repeat (first | (with_reducible first | exact bw HB.out | refine bset ?_ | apply bA | apply bN | apply bD) | exact HB.out)))); have n1_ := Aside0.mk (blk_below (bs BK595.out) hb); have n2_ := Aside0.mk (below_step (by repeat (first | (with_reducible first | exact bw HB.out | refine bset ?_ | apply bA | apply bN | apply bD) | exact HB.out)) hb); have HO598 := n0_; replace BK595 := n1_; replace HB := n2_; clear n0_ n1_ n2_; clear hb ho6; obtain ⟨hcz7_0, hcz7_1, hfz7_0, hfz7_1⟩ := bz2 BK595.out) | ((with_reducible refine gate_callee (f := 154) rfl ?_); refine goesL_ (some 10) rfl rfl Try.func154 (by kernel_rfl) rfl #[.agg #[.int .i64 a0_0, .slice A0_1 l0_1.length c0_1]] rfl (by (try simp only [mA_]); first | done | rfl | (simp only [List.length_drop, List.length_take]; rfl)) ?_; (with_reducible refine (spec_l9All.calls k a0_0 _ _ l0_1 t599 _ ?side1 ?side2 A3.out).mono ?_); (case side1 => first | exact bC HR0_1.out HB.out | exact Kd.C_below HR0_1.out HB.out); (case side2 => exact HC0_1.out); rintro e w8 ⟨v600, rfl, ho0, hb⟩; refine ⟨_, rfl, ?_⟩; have n0_ := Aside0.mk (Kd.R_below (bR HO598.out) hb); have n1_ := Aside0.mk (Kd.R_lower ho0 (below_size (by repeat (first | (with_reducible first | exact bw HB.out | refine bset ?_ | apply bA | apply bN | apply bD) | exact HB.out)))); have n2_ := Aside0.mk (blk_below (bs BK595.out) hb); have n3_ := Aside0.mk (below_step (by repeat (first | (with_reducible first | exact bw HB.out | refine bset ?_ | apply bA | apply bN | apply bD) | exact HB.out)) hb); replace HO598 := n0_; have HO601 := n1_; replace BK595 := n2_; replace HB := n3_; clear n0_ n1_ n2_ n3_; (try clear hb); (try clear hb2); (try clear hk); (try clear hi); (try clear ho0)))
 go_loopg [5, 7] k (fun kq v5 v7 w' => ∃ (x5_1 : List Int) (x7_1 : Int), v7 = .int .i64 x7_1 ∧ Aside0 (spec_l9On.l0 kq a1 x5_1 t599 x7_1 = some r) ∧ Aside0 (kq ≤ k) ∧ Aside0 (Kd.R (Kd.int .i64) 3 w' w.heap.size (fun _ => True) v5 x5_1) ∧ Aside0 (Kd.R k133 133 w' w.heap.size (fun _ => True) v600 t599) ∧ Aside0 (w'.heap[gb595]? = some (.cells #[.int .i64 a0_0, (.slice A0_1 l0_1.length c0_1)] 51 (0, 0))) ∧ Aside0 (Below w.heap.size w w'))
 case atStart => exact ⟨(y596), (0), (by first | rfl | (simp; done) | (simp [*]; done)), H', ⟨Nat.le_refl _⟩, ⟨bR HO598.out⟩, ⟨bR HO601.out⟩, ⟨bs BK595.out⟩, ⟨by repeat (first | (with_reducible first | exact bw HB.out | refine bset ?_ | apply bA | apply bN | apply bD) | exact HB.out)⟩⟩
 case round =>
  clear H'
  try clear c1
  try clear p2
  try clear hcz7_0
  try clear hcz7_1
  try clear hfz7_0
  try clear hfz7_1
  obtain ⟨x5_1, x7_1, rfl, HA, HK1, HO_5, HO_6, BK595, HB⟩ := hrel
  cases gk with
  | zero => exact absurd HA.out (by simp [spec_l9On.l0])
  | succ k1 =>
   have H := HA.out
   clear HA
   simp only [spec_l9On.l0] at H
   by_cases c9 : x7_1 < (t599.length : Int)
   rotate_left
   ·rw [if_neg c9] at H
    have c9b0 : decide (x7_1 < (t599.length : Int)) = false := decide_eq_false c9
    clear c9
    obtain rfl := Option.some.inj H
    obtain ⟨Ao16, co16, eo16⟩ := Kd.R_slice HO_6.out
    subst eo16
    go_wp2
    go_ret
    exact ⟨_, by first | rfl | (simp [errW_none, errW_some] <;> rfl) | (simp [*, errW_none, errW_some] <;> rfl), by (with_reducible repeat (first | apply Kd.R_alloc | apply Kd.R_drewN | apply Kd.R_drew)); exact HO_5.out, by repeat (first | (with_reducible first | exact bw HB.out | refine bset ?_ | apply bA | apply bN | apply bD) | exact HB.out)⟩
   rw [if_pos c9] at H
   have c9b0 : decide (x7_1 < (t599.length : Int)) = true := decide_eq_true c9
   clear c9
   by_cases c10 : 0 ≤ x7_1
   rotate_left
   ·rw [if_neg c10] at H
    exact absurd H (by simp)
   rw [if_pos c10] at H
   have c10b0 : decide (0 ≤ x7_1) = true := decide_eq_true c10
   clear c10
   by_cases c11 : ((rd_T133 t599 x7_1).f0) = a1
   rotate_left
   ·rw [if_neg c11] at H
    have c11b0 : (((rd_T133 t599 x7_1).f0) == a1) = false := beq_eq_false_iff_ne.mpr c11
    have c11b1 : (((rd_T133 t599 x7_1).f0) != a1) = true := bne_iff_ne.mpr c11
    have H' := Aside0.mk H
    clear H
    obtain ⟨Ao15, co15, eo15⟩ := Kd.R_slice HO_6.out
    subst eo15
    have p602 : 0 ≤ (x7_1 : Int) := of_decide_eq_true (by first | (with_reducible assumption) | assumption)
    have q602 : x7_1 < (t599.length : Int) := of_decide_eq_true (by first | (with_reducible assumption) | assumption)
    obtain ⟨ad602, e602, hx602_0, hx602_1⟩ := at_T133 (Kd.R_reads' HO_6.out).2.2 x7_1 p602 q602
    cases e602
    replace p602 := eq_true p602
    replace q602 := eq_true q602
    go_wp2
    go_roundg k1
    case measure => have := HK1.out; omega
    case rel => exact ⟨(x5_1), (wrap64 (x7_1 + 1)), (by first | rfl | (simp; done) | (simp [*]; done)), H', ⟨by have := HK1.out; omega⟩, ⟨bR HO_5.out⟩, ⟨bR HO_6.out⟩, ⟨bs BK595.out⟩, ⟨by repeat (first | (with_reducible first | exact bw HB.out | refine bset ?_ | apply bA | apply bN | apply bD) | exact HB.out)⟩⟩
   rw [if_pos c11] at H
   have c11b0 : (((rd_T133 t599 x7_1).f0) == a1) = true := beq_iff_eq.mpr c11
   have c11b1 : (((rd_T133 t599 x7_1).f0) != a1) = false := bne_eq_false_iff_eq.mpr c11
   clear c11
   by_cases c12 : x5_1.length < 17592186044416
   rotate_left
   ·rw [if_neg c12] at H
    exact absurd H (by simp)
   rw [if_pos c12] at H
   have LMc12 := Aside0.mk c12
   clear c12
   obtain ⟨y603, hy603⟩ : ∃ y_ : List Int, y_ = (x5_1 ++ [x7_1]) := ⟨_, rfl⟩
   replace H : (spec_l9On.l0 k1 a1 y603 t599 (wrap64 (x7_1 + 1))) = some r := by first | (rw [hy603]; with_reducible exact H) | (have H2_ := (Option.bind_some _ _).symm.trans H; rw [hy603]; with_reducible exact H2_) | (have H2_ := (Option.bind_some _ _).symm.trans H; with_reducible exact H2_) | with_reducible exact H | (rw [hy603]; exact H) | exact H
   have Ny603 := Aside0.mk hy603
   clear hy603
   have H' := Aside0.mk H
   clear H
   obtain ⟨Ao13, co13, eo13⟩ := Kd.R_slice HO_6.out
   subst eo13
   have p602 : 0 ≤ (x7_1 : Int) := of_decide_eq_true (by first | (with_reducible assumption) | assumption)
   have q602 : x7_1 < (t599.length : Int) := of_decide_eq_true (by first | (with_reducible assumption) | assumption)
   obtain ⟨ad602, e602, hx602_0, hx602_1⟩ := at_T133 (Kd.R_reads' HO_6.out).2.2 x7_1 p602 q602
   cases e602
   replace p602 := eq_true p602
   replace q602 := eq_true q602
   go_wp2_with (first | ((with_reducible refine gate_builtin (b := .append) (xs := #[.tmp 24, .tmp 26]) rfl ?_); at_builtin; refine Kd.R_append (Kd.int .i64) (w0 := w) w.heap.size rfl (.tmp 24) (.tmp 26) 23 3 (.int .i64 0) 8 rfl Try.underlying23 info3 rfl (by decide) (by omega) u5 x5_1 x7_1 [.int .i64 x7_1] (fun _ => True) (fun _ => False) rfl rfl ?aP (fun _ hk => hk.elim) ?aF ?aO ?aB ?aS ?aL ?_; (case aP => exact rfl); (case aB => exact (by repeat (first | (with_reducible first | exact bw HB.out | refine bset ?_ | apply bA | apply bN | apply bD) | exact HB.out))); (case aF => exact (fun _ _ => trivial)); (case aO => exact (bR HO_5.out)); (case aS => exact (below_size (by repeat (first | (with_reducible first | exact bw HB.out | refine bset ?_ | apply bA | apply bN | apply bD) | exact HB.out)))); (case aL => have := LMc12.out; omega); intro v604 w14 ho hb hg hat; rw [← Ny603.out] at ho; have n0_ := Aside0.mk (Kd.R_over' (bR HO_6.out) (Kd.R_typed (bR HO_5.out)) (by decide) hg); have n1_ := Aside0.mk (blk_grown (bs BK595.out) hg (Kd.R_ne HO_5.out BK595.out (by decide))); have n2_ := Aside0.mk (hb); have n3_ := Aside0.mk (ho); clear HO_5; replace HO_6 := n0_; replace BK595 := n1_; replace HB := n2_; have HO605 := n3_; clear n0_ n1_ n2_ n3_; clear ho hb hg hat))
   go_roundg k1
   case measure => have := HK1.out; omega
   case rel => exact ⟨(y603), (wrap64 (x7_1 + 1)), (by first | rfl | (simp; done) | (simp [*]; done)), H', ⟨by have := HK1.out; omega⟩, ⟨bR HO605.out⟩, ⟨bR HO_6.out⟩, ⟨bs BK595.out⟩, ⟨by repeat (first | (with_reducible first | exact bw HB.out | refine bset ?_ | apply bA | apply bN | apply bD) | exact HB.out)⟩⟩

/-! ### spec_OpsOn: function 40 -/
def spec_OpsOn.f (k : Nat) (a0_0 : Int) (l0_1 : List (List (S133))) (a1 : Int) : Option (List Int × Bool) := (spec_l9Good.f k a0_0 l0_1).bind fun t607 => (if t607 = true then ((spec_l1In.f a1 0 (wrap64 (a0_0 - 1))).bind fun t608 => (if t608 = true then ((spec_l9On.f k a0_0 l0_1 a1).bind fun t609 => (some (t609, true))) else (some ((([] : List Int)), false)))) else (some ((([] : List Int)), false)))
theorem spec_OpsOn.mono : ∀ a0 a1 a2 k, LeO (spec_OpsOn.f k a0 a1 a2) (spec_OpsOn.f (k + 1) a0 a1 a2) := by
 intro a0 a1 a2 k
 unfold spec_OpsOn.f
 repeat' first
   | (with_reducible exact spec_l9Good.mono _ _ _)
   | (with_reducible exact spec_l9On.mono _ _ _ _)
   | (with_reducible exact LeO.refl _)
   | (with_reducible exact LeO.none _)
   | (with_reducible refine LeO.ite ?_ ?_)
   | (with_reducible refine LeO.bind ?_ (fun _ => ?_))
   | exact spec_l9Good.mono _ _ _
   | exact spec_l9On.mono _ _ _ _
   | exact LeO.none _
   | refine LeO.ite ?_ ?_
   | refine LeO.bind ?_ (fun _ => ?_)
set_option maxHeartbeats 8000000 in
set_option maxRecDepth 100000 in
theorem spec_OpsOn.calls (k : Nat) (a0_0 : Int) (A0_1 : Option Addr) (c0_1 : Nat) (l0_1 : List (List (S133))) (a1 : Int) (r1 : List Int) (r2 : Bool) (w : World) (hr0_1 : Kd.C (Kd.slice 133 k133) w A0_1 l0_1.length l0_1) (hc0_1 : l0_1.length ≤ c0_1) (h : spec_OpsOn.f k a0_0 l0_1 a1 = some (r1, r2)) :
  Calls Try.prog 40 #[.agg #[.int .i64 a0_0, .slice A0_1 l0_1.length c0_1], .int .i64 a1] w fun e w' => ∃ v0_ : Value, e = .returned (.tuple #[v0_, .bool r2]) ∧ Kd.R (Kd.int .i64) 3 w' w.heap.size (fun _ => True) v0_ r1 ∧ Below w.heap.size w w' := by
 have hu51 := Try.underlying51
 have HR0_1 := Aside0.mk hr0_1
 have HC0_1 := Aside0.mk hc0_1
 clear hr0_1 hc0_1
 have HB := Aside0.mk (Below.refl w.heap.size w)
 have H : ((spec_l9Good.f k a0_0 l0_1).bind fun t607 => (if t607 = true then ((spec_l1In.f a1 0 (wrap64 (a0_0 - 1))).bind fun t608 => (if t608 = true then ((spec_l9On.f k a0_0 l0_1 a1).bind fun t609 => (some (t609, true))) else (some ((([] : List Int)), false)))) else (some ((([] : List Int)), false)))) = some (r1, r2) := h
 clear h
 replace H := Option.bind_eq_some_iff.mp H
 obtain ⟨t607, A30, H⟩ := H
 replace H : (if t607 = true then ((spec_l1In.f a1 0 (wrap64 (a0_0 - 1))).bind fun t608 => (if t608 = true then ((spec_l9On.f k a0_0 l0_1 a1).bind fun t609 => (some (t609, true))) else (some ((([] : List Int)), false)))) else (some ((([] : List Int)), false))) = some (r1, r2) := H
 have A3 := Aside0.mk A30
 clear A30
 by_cases c4 : t607 = true
 rotate_left
 ·replace c4 := Bool.eq_false_iff.mpr c4
  subst c4
  have H1 : (some ((([] : List Int)), false)) = some (r1, r2) := by rw [if_neg (show ¬ (false = true) by decide)] at H; exact H
  clear H
  have H := H1
  clear H1
  obtain ⟨y615, hy615⟩ : ∃ y_ : List Int, y_ = (([] : List Int)) := ⟨_, rfl⟩
  replace H : (some (y615, false)) = some (r1, r2) := by first | (rw [hy615]; with_reducible exact H) | (have H2_ := (Option.bind_some _ _).symm.trans H; rw [hy615]; with_reducible exact H2_) | (have H2_ := (Option.bind_some _ _).symm.trans H; with_reducible exact H2_) | with_reducible exact H | (rw [hy615]; exact H) | exact H
  have Ny615 := Aside0.mk hy615
  clear hy615
  simp only [Option.some.injEq, Prod.mk.injEq] at H
  obtain ⟨rfl, rfl⟩ := H
  go_enter Try.func40, Try.ntmps40
  go_wp2_with (first | ((with_reducible refine gate_dst (N := 2) rfl ?_); refine box_event ?hg (N := 2) ?hd (cs := #[.int .i64 a0_0, .slice A0_1 l0_1.length c0_1]) (t := 51) ?hr ?_; (case hd => rfl); (case hg => rfl); (case hr => first | (go_simp; done) | (go_simp; rfl)); intro gb606 hg w19 hbox hb; have n0_ := Aside0.mk (below_step (bw HB.out) hb); have n1_ := Aside0.mk (hbox); have n2_ := ge_ hg HB.out; have n3_ := ge_ hg HB.out; replace HB := n0_; have BK606 := n1_; have GW606 := n2_; have GE606 := n3_; clear n0_ n1_ n2_ n3_; clear hb hbox hg; obtain ⟨hcz20_0, hcz20_1, hfz20_0, hfz20_1⟩ := bz2 BK606.out) | ((with_reducible refine gate_callee (f := 94) rfl ?_); refine goesL_ (some 7) rfl rfl Try.func94 (by kernel_rfl) rfl #[.agg #[.int .i64 a0_0, .slice A0_1 l0_1.length c0_1]] rfl (by (try simp only [mA_]); first | done | rfl | (simp only [List.length_drop, List.length_take]; rfl)) ?_; (with_reducible refine (spec_l9Good.calls k a0_0 _ _ l0_1 false _ ?side1 ?side2 A3.out).mono ?_); (case side1 => first | exact bC HR0_1.out HB.out | exact Kd.C_below HR0_1.out HB.out); (case side2 => exact HC0_1.out); rintro e w21 ⟨rfl, hb⟩; refine ⟨_, rfl, ?_⟩; have n0_ := Aside0.mk (blk_below (bs BK606.out) hb); have n1_ := Aside0.mk (below_step (by repeat (first | (with_reducible first | exact bw HB.out | refine bset ?_ | apply bA | apply bN | apply bD) | exact HB.out)) hb); replace BK606 := n0_; replace HB := n1_; clear n0_ n1_; (try clear hb); (try clear hb2); (try clear hk); (try clear hi)) | ((with_reducible refine gate_dst (N := 17) rfl ?_); refine Kd.R_lit (Kd.int .i64) _ 3 ?hg (N := 17) ?hd (xs := ([] : List Int)) (inner := []) (ok := fun _ => True) (okp := fun _ => True) ?hr ?hp (fun _ hk => hk) trivial (Below.refl _ _) (Nat.le_refl _) (by simp) ?_; (case hd => rfl); (case hg => rfl); (case hr => first | (go_simp; done) | (go_simp; rfl)); (case hp => exact (Reps.none _ _)); intro v616 w22 ho23 hb hg_ hnew_; clear hg_ hnew_; (first | rw [← Ny615.out] at ho23 | (simp only [Int.reduceToNat] at ho23; rw [← Ny615.out] at ho23)); have n0_ := Aside0.mk (Kd.R_lower ho23 (below_size (by repeat (first | (with_reducible first | exact bw HB.out | refine bset ?_ | apply bA | apply bN | apply bD) | exact HB.out)))); have n1_ := Aside0.mk (blk_below (bs BK606.out) hb); have n2_ := Aside0.mk (below_step (by repeat (first | (with_reducible first | exact bw HB.out | refine bset ?_ | apply bA | apply bN | apply bD) | exact HB.out)) hb); have HO617 := n0_; replace BK606 := n1_; replace HB := n2_; clear n0_ n1_ n2_; clear hb ho23))
  go_ret2
  exact ⟨_, by first | rfl | (simp [errW_none, errW_some] <;> rfl) | (simp [*, errW_none, errW_some] <;> rfl), by (with_reducible repeat (first | apply Kd.R_alloc | apply Kd.R_drewN | apply Kd.R_drew)); exact HO617.out, by repeat (first | (with_reducible first | exact bw HB.out | refine bset ?_ | apply bA | apply bN | apply bD) | exact HB.out)⟩
 subst c4
 have H1 : ((spec_l1In.f a1 0 (wrap64 (a0_0 - 1))).bind fun t608 => (if t608 = true then ((spec_l9On.f k a0_0 l0_1 a1).bind fun t609 => (some (t609, true))) else (some ((([] : List Int)), false)))) = some (r1, r2) := by rw [if_pos rfl] at H; exact H
 clear H
 have H := H1
 clear H1
 replace H := Option.bind_eq_some_iff.mp H
 obtain ⟨t608, A50, H⟩ := H
 replace H : (if t608 = true then ((spec_l9On.f k a0_0 l0_1 a1).bind fun t609 => (some (t609, true))) else (some ((([] : List Int)), false))) = some (r1, r2) := H
 have A5 := Aside0.mk A50
 clear A50
 by_cases c6 : t608 = true
 ·subst c6
  have H1 : ((spec_l9On.f k a0_0 l0_1 a1).bind fun t609 => (some (t609, true))) = some (r1, r2) := by rw [if_pos rfl] at H; exact H
  clear H
  have H := H1
  clear H1
  replace H := Option.bind_eq_some_iff.mp H
  obtain ⟨t609, A70, H⟩ := H
  replace H : (some (t609, true)) = some (r1, r2) := H
  have A7 := Aside0.mk A70
  clear A70
  simp only [Option.some.injEq, Prod.mk.injEq] at H
  obtain ⟨rfl, rfl⟩ := H
  go_enter Try.func40, Try.ntmps40
  go_wp2_with (first | ((with_reducible refine gate_dst (N := 2) rfl ?_); refine box_event ?hg (N := 2) ?hd (cs := #[.int .i64 a0_0, .slice A0_1 l0_1.length c0_1]) (t := 51) ?hr ?_; (case hd => rfl); (case hg => rfl); (case hr => first | (go_simp; done) | (go_simp; rfl)); intro gb606 hg w8 hbox hb; have n0_ := Aside0.mk (below_step (bw HB.out) hb); have n1_ := Aside0.mk (hbox); have n2_ := ge_ hg HB.out; have n3_ := ge_ hg HB.out; replace HB := n0_; have BK606 := n1_; have GW606 := n2_; have GE606 := n3_; clear n0_ n1_ n2_ n3_; clear hb hbox hg; obtain ⟨hcz9_0, hcz9_1, hfz9_0, hfz9_1⟩ := bz2 BK606.out) | ((with_reducible refine gate_callee (f := 94) rfl ?_); refine goesL_ (some 7) rfl rfl Try.func94 (by kernel_rfl) rfl #[.agg #[.int .i64 a0_0, .slice A0_1 l0_1.length c0_1]] rfl (by (try simp only [mA_]); first | done | rfl | (simp only [List.length_drop, List.length_take]; rfl)) ?_; (with_reducible refine (spec_l9Good.calls k a0_0 _ _ l0_1 true _ ?side1 ?side2 A3.out).mono ?_); (case side1 => first | exact bC HR0_1.out HB.out | exact Kd.C_below HR0_1.out HB.out); (case side2 => exact HC0_1.out); rintro e w10 ⟨rfl, hb⟩; refine ⟨_, rfl, ?_⟩; have n0_ := Aside0.mk (blk_below (bs BK606.out) hb); have n1_ := Aside0.mk (below_step (by repeat (first | (with_reducible first | exact bw HB.out | refine bset ?_ | apply bA | apply bN | apply bD) | exact HB.out)) hb); replace BK606 := n0_; replace HB := n1_; clear n0_ n1_; (try clear hb); (try clear hb2); (try clear hk); (try clear hi); obtain ⟨hcz11_0, hcz11_1, hfz11_0, hfz11_1⟩ := bz2 BK606.out) | (go_at_call 101; (with_reducible refine (spec_l1In.calls a1 0 (wrap64 (a0_0 - 1)) true _ A5.out).mono ?_); rintro e w' ⟨rfl, ⟨nd, rfl⟩⟩) | ((with_reducible refine gate_callee (f := 102) rfl ?_); refine goesL_ (some 20) rfl rfl Try.func102 (by kernel_rfl) rfl #[.agg #[.int .i64 a0_0, .slice A0_1 l0_1.length c0_1], .int .i64 a1] rfl (by (try simp only [mA_]); first | done | rfl | (simp only [List.length_drop, List.length_take]; rfl)) ?_; (with_reducible refine (spec_l9On.calls k a0_0 _ _ l0_1 a1 t609 _ ?side1 ?side2 A7.out).mono ?_); (case side1 => repeat (first | exact (Kd.C_below HR0_1.out (by repeat (first | (with_reducible first | exact bw HB.out | refine bset ?_ | apply bA | apply bN | apply bD) | exact HB.out))) | (with_reducible refine Kd.C_alloc ?_ _) | (with_reducible refine Kd.C_drewN ?_ _) | (with_reducible refine Kd.C_drew ?_))); (case side2 => exact HC0_1.out); rintro e w12 ⟨v610, rfl, ho0, hb⟩; refine ⟨_, rfl, ?_⟩; have n0_ := Aside0.mk (Kd.R_lower ho0 (below_size (by repeat (first | (with_reducible first | exact bw HB.out | refine bset ?_ | apply bA | apply bN | apply bD) | exact HB.out)))); have n1_ := Aside0.mk (blk_below (bs BK606.out) hb); have n2_ := Aside0.mk (below_step (by repeat (first | (with_reducible first | exact bw HB.out | refine bset ?_ | apply bA | apply bN | apply bD) | exact HB.out)) hb); have HO611 := n0_; replace BK606 := n1_; replace HB := n2_; clear n0_ n1_ n2_; (try clear hb); (try clear hb2); (try clear hk); (try clear hi); (try clear ho0)))
  go_ret2
  exact ⟨_, by first | rfl | (simp [errW_none, errW_some] <;> rfl) | (simp [*, errW_none, errW_some] <;> rfl), by (with_reducible repeat (first | apply Kd.R_alloc | apply Kd.R_drewN | apply Kd.R_drew)); exact HO611.out, by repeat (first | (with_reducible first | exact bw HB.out | refine bset ?_ | apply bA | apply bN | apply bD) | exact HB.out)⟩
 replace c6 := Bool.eq_false_iff.mpr c6
 subst c6
 have H1 : (some ((([] : List Int)), false)) = some (r1, r2) := by rw [if_neg (show ¬ (false = true) by decide)] at H; exact H
 clear H
 have H := H1
 clear H1
 obtain ⟨y612, hy612⟩ : ∃ y_ : List Int, y_ = (([] : List Int)) := ⟨_, rfl⟩
 replace H : (some (y612, false)) = some (r1, r2) := by first | (rw [hy612]; with_reducible exact H) | (have H2_ := (Option.bind_some _ _).symm.trans H; rw [hy612]; with_reducible exact H2_) | (have H2_ := (Option.bind_some _ _).symm.trans H; with_reducible exact H2_) | with_reducible exact H | (rw [hy612]; exact H) | exact H
 have Ny612 := Aside0.mk hy612
 clear hy612
 simp only [Option.some.injEq, Prod.mk.injEq] at H
 obtain ⟨rfl, rfl⟩ := H
 go_enter Try.func40, Try.ntmps40
 go_wp2_with (first | ((with_reducible refine gate_dst (N := 2) rfl ?_); refine box_event ?hg (N := 2) ?hd (cs := #[.int .i64 a0_0, .slice A0_1 l0_1.length c0_1]) (t := 51) ?hr ?_; (case hd => rfl); (case hg => rfl); (case hr => first | (go_simp; done) | (go_simp; rfl)); intro gb606 hg w13 hbox hb; have n0_ := Aside0.mk (below_step (bw HB.out) hb); have n1_ := Aside0.mk (hbox); have n2_ := ge_ hg HB.out; have n3_ := ge_ hg HB.out; replace HB := n0_; have BK606 := n1_; have GW606 := n2_; have GE606 := n3_; clear n0_ n1_ n2_ n3_; clear hb hbox hg; obtain ⟨hcz14_0, hcz14_1, hfz14_0, hfz14_1⟩ := bz2 BK606.out) | ((with_reducible refine gate_callee (f := 94) rfl ?_); refine goesL_ (some 7) rfl rfl Try.func94 (by kernel_rfl) rfl #[.agg #[.int .i64 a0_0, .slice A0_1 l0_1.length c0_1]] rfl (by (try simp only [mA_]); first | done | rfl | (simp only [List.length_drop, List.length_take]; rfl)) ?_; (with_reducible refine (spec_l9Good.calls k a0_0 _ _ l0_1 true _ ?side1 ?side2 A3.out).mono ?_); (case side1 => first | exact bC HR0_1.out HB.out | exact Kd.C_below HR0_1.out HB.out); (case side2 => exact HC0_1.out); rintro e w15 ⟨rfl, hb⟩; refine ⟨_, rfl, ?_⟩; have n0_ := Aside0.mk (blk_below (bs BK606.out) hb); have n1_ := Aside0.mk (below_step (by repeat (first | (with_reducible first | exact bw HB.out | refine bset ?_ | apply bA | apply bN | apply bD) | exact HB.out)) hb); replace BK606 := n0_; replace HB := n1_; clear n0_ n1_; (try clear hb); (try clear hb2); (try clear hk); (try clear hi); obtain ⟨hcz16_0, hcz16_1, hfz16_0, hfz16_1⟩ := bz2 BK606.out) | (go_at_call 101; (with_reducible refine (spec_l1In.calls a1 0 (wrap64 (a0_0 - 1)) false _ A5.out).mono ?_); rintro e w' ⟨rfl, ⟨nd, rfl⟩⟩) | ((with_reducible refine gate_dst (N := 17) rfl ?_); refine Kd.R_lit (Kd.int .i64) _ 3 ?hg (N := 17) ?hd (xs := ([] : List Int)) (inner := []) (ok := fun _ => True) (okp := fun _ => True) ?hr ?hp (fun _ hk => hk) trivial (Below.refl _ _) (Nat.le_refl _) (by simp) ?_; (case hd => rfl); (case hg => rfl); (case hr => first | (go_simp; done) | (go_simp; rfl)); (case hp => exact (Reps.none _ _)); intro v613 w17 ho18 hb hg_ hnew_; clear hg_ hnew_; (first | rw [← Ny612.out] at ho18 | (simp only [Int.reduceToNat] at ho18; rw [← Ny612.out] at ho18)); have n0_ := Aside0.mk (Kd.R_lower ho18 (below_size (by repeat (first | (with_reducible first | exact bw HB.out | refine bset ?_ | apply bA | apply bN | apply bD) | exact HB.out)))); have n1_ := Aside0.mk (blk_below (bs BK606.out) hb); have n2_ := Aside0.mk (below_step (by repeat (first | (with_reducible first | exact bw HB.out | refine bset ?_ | apply bA | apply bN | apply bD) | exact HB.out)) hb); have HO614 := n0_; replace BK606 := n1_; replace HB := n2_; clear n0_ n1_ n2_; clear hb ho18))
 go_ret2
 exact ⟨_, by first | rfl | (simp [errW_none, errW_some] <;> rfl) | (simp [*, errW_none, errW_some] <;> rfl), by (with_reducible repeat (first | apply Kd.R_alloc | apply Kd.R_drewN | apply Kd.R_drew)); exact HO614.out, by repeat (first | (with_reducible first | exact bw HB.out | refine bset ?_ | apply bA | apply bN | apply bD) | exact HB.out)⟩

/-! ### impl_OpsOn: function 41 -/
def impl_OpsOn.j0 : Nat → Int → Bool → Int → List (List (S133)) → Option (List Int × Bool)
 | 0, _, _, _, _ => none
 | k + 1, x1, x15, x625000, x625001 => if x15 = true then (some (([] : List Int), false)) else ((impl_flatOf.f k x625000 x625001).bind fun bt627 => ((impl_flat_on.f k bt627.1 bt627.2.1 bt627.2.2 x1).bind fun t636 => (some (t636, true))))
def impl_OpsOn.f (k : Nat) (a0_0 : Int) (l0_1 : List (List (S133))) (a1 : Int) : Option (List Int × Bool) := (impl_IsJobShop.f k a0_0 l0_1).bind fun t625 => (if t625 = true then ((impl_isNumber.f a1 a0_0).bind fun t626 => (impl_OpsOn.j0 k a1 (!t626) a0_0 l0_1)) else (impl_OpsOn.j0 k a1 true a0_0 l0_1))
theorem impl_OpsOn.mono_l : ∀ k, (∀ y0 y1 y2 y3, LeO (impl_OpsOn.j0 k y0 y1 y2 y3) (impl_OpsOn.j0 (k + 1) y0 y1 y2 y3))
 | 0 => fun _ _ _ _ r h => by simp [impl_OpsOn.j0] at h
 | k + 1 => by
  have ih0 := impl_OpsOn.mono_l k
  ·intro y0 y1 y2 y3
   unfold impl_OpsOn.j0
   repeat' first
   | (with_reducible exact ih0 _ _ _ _)
   | (with_reducible exact impl_IsJobShop.mono _ _ _)
   | (with_reducible exact impl_flatOf.mono _ _ _)
   | (with_reducible exact impl_flat_on.mono _ _ _ _ _)
   | (with_reducible exact LeO.refl _)
   | (with_reducible exact LeO.none _)
   | (with_reducible refine LeO.ite ?_ ?_)
   | (with_reducible refine LeO.bind ?_ (fun _ => ?_))
   | exact ih0 _ _ _ _
   | exact impl_IsJobShop.mono _ _ _
   | exact impl_flatOf.mono _ _ _
   | exact impl_flat_on.mono _ _ _ _ _
   | exact LeO.none _
   | refine LeO.ite ?_ ?_
   | refine LeO.bind ?_ (fun _ => ?_)
theorem impl_OpsOn.mono : ∀ a0 a1 a2 k, LeO (impl_OpsOn.f k a0 a1 a2) (impl_OpsOn.f (k + 1) a0 a1 a2) := by
 intro a0 a1 a2 k
 have ih0 := impl_OpsOn.mono_l k
 unfold impl_OpsOn.f
 repeat' first
   | (with_reducible exact ih0 _ _ _ _)
   | (with_reducible exact impl_IsJobShop.mono _ _ _)
   | (with_reducible exact impl_flatOf.mono _ _ _)
   | (with_reducible exact impl_flat_on.mono _ _ _ _ _)
   | (with_reducible exact LeO.refl _)
   | (with_reducible exact LeO.none _)
   | (with_reducible refine LeO.ite ?_ ?_)
   | (with_reducible refine LeO.bind ?_ (fun _ => ?_))
   | exact ih0 _ _ _ _
   | exact impl_IsJobShop.mono _ _ _
   | exact impl_flatOf.mono _ _ _
   | exact impl_flat_on.mono _ _ _ _ _
   | exact LeO.none _
   | refine LeO.ite ?_ ?_
   | refine LeO.bind ?_ (fun _ => ?_)
set_option maxHeartbeats 8000000 in
set_option maxRecDepth 100000 in
theorem impl_OpsOn.calls (k : Nat) (a0_0 : Int) (A0_1 : Option Addr) (c0_1 : Nat) (l0_1 : List (List (S133))) (a1 : Int) (r1 : List Int) (r2 : Bool) (w : World) (hr0_1 : Kd.C (Kd.slice 133 k133) w A0_1 l0_1.length l0_1) (hc0_1 : l0_1.length ≤ c0_1) (h : impl_OpsOn.f k a0_0 l0_1 a1 = some (r1, r2)) :
  Calls Try.prog 41 #[.agg #[.int .i64 a0_0, .slice A0_1 l0_1.length c0_1], .int .i64 a1] w fun e w' => ∃ v0_ : Value, e = .returned (.tuple #[v0_, .bool r2]) ∧ Kd.R (Kd.int .i64) 3 w' w.heap.size (fun _ => True) v0_ r1 ∧ Below w.heap.size w w' := by
 have hu51 := Try.underlying51
 have HR0_1 := Aside0.mk hr0_1
 have HC0_1 := Aside0.mk hc0_1
 clear hr0_1 hc0_1
 have HB := Aside0.mk (Below.refl w.heap.size w)
 have H : ((impl_IsJobShop.f k a0_0 l0_1).bind fun t625 => (if t625 = true then ((impl_isNumber.f a1 a0_0).bind fun t626 => (impl_OpsOn.j0 k a1 (!t626) a0_0 l0_1)) else (impl_OpsOn.j0 k a1 true a0_0 l0_1))) = some (r1, r2) := h
 clear h
 have HC3 := Aside0.mk H
 clear H
 go_enter Try.func41, Try.ntmps41
 go_upto_region 1 with (first | ((with_reducible refine gate_dst (N := 2) rfl ?_); refine box_event ?hg (N := 2) ?hd (cs := #[.int .i64 a0_0, .slice A0_1 l0_1.length c0_1]) (t := 51) ?hr ?_; (case hd => rfl); (case hg => rfl); (case hr => first | (go_simp; done) | (go_simp; rfl)); intro gb624 hg w4 hbox hb; have n0_ := Aside0.mk (below_step (bw HB.out) hb); have n1_ := Aside0.mk (hbox); have n2_ := ge_ hg HB.out; have n3_ := ge_ hg HB.out; replace HB := n0_; have BK624 := n1_; have GW624 := n2_; have GE624 := n3_; clear n0_ n1_ n2_ n3_; clear hb hbox hg))
 (try simp only [Act.put, List.setIfInBounds_toArray, List.set_cons_zero, List.set_cons_succ])
 go_cut [15] (fun v15 wc => ∃ (kq : Nat) (x15_2 : Bool), v15 = .bool x15_2 ∧ Aside0 (impl_OpsOn.j0 kq a1 x15_2 a0_0 l0_1 = some (r1, r2)) ∧ Aside0 (kq ≤ k) ∧ Aside0 (wc.heap[gb624]? = some (.cells #[.int .i64 a0_0, (.slice A0_1 l0_1.length c0_1)] 51 (0, 0))) ∧ Aside0 (Below w.heap.size w wc))
 case first =>
  have H := HC3.out
  clear HC3
  replace H := Option.bind_eq_some_iff.mp H
  obtain ⟨t625, A50, H⟩ := H
  replace H : (if t625 = true then ((impl_isNumber.f a1 a0_0).bind fun t626 => (impl_OpsOn.j0 k a1 (!t626) a0_0 l0_1)) else (impl_OpsOn.j0 k a1 true a0_0 l0_1)) = some (r1, r2) := H
  have A5 := Aside0.mk A50
  clear A50
  by_cases c6 : t625 = true
  rotate_left
  ·replace c6 := Bool.eq_false_iff.mpr c6
   subst c6
   have H1 : (impl_OpsOn.j0 k a1 true a0_0 l0_1) = some (r1, r2) := by rw [if_neg (show ¬ (false = true) by decide)] at H; exact H
   clear H
   have H := H1
   clear H1
   have H' := Aside0.mk H
   clear H
   obtain ⟨hcz11_0, hcz11_1, hfz11_0, hfz11_1⟩ := bz2 BK624.out
   go_wp2_with (first | ((with_reducible refine gate_callee (f := 97) rfl ?_); refine goesL_ (some 7) rfl rfl Try.func97 (by kernel_rfl) rfl #[.agg #[.int .i64 a0_0, .slice A0_1 l0_1.length c0_1]] rfl (by (try simp only [mA_]); first | done | rfl | (simp only [List.length_drop, List.length_take]; rfl)) ?_; (with_reducible refine (impl_IsJobShop.calls k a0_0 _ _ l0_1 false _ ?side1 ?side2 A5.out).mono ?_); (case side1 => first | exact bC HR0_1.out HB.out | exact Kd.C_below HR0_1.out HB.out); (case side2 => exact HC0_1.out); rintro e w12 ⟨rfl, hb⟩; refine ⟨_, rfl, ?_⟩; have n0_ := Aside0.mk (blk_below (bs BK624.out) hb); have n1_ := Aside0.mk (below_step (by repeat (first | (with_reducible first | exact bw HB.out | refine bset ?_ | apply bA | apply bN | apply bD) | exact HB.out)) hb); replace BK624 := n0_; replace HB := n1_; clear n0_ n1_; (try clear hb); (try clear hb2); (try clear hk); (try clear hi)))
   go_meet
   case rel => exact ⟨_, (true), (by first | rfl | (simp; done) | (simp [*]; done)), H', ⟨by first | omega | exact Nat.le_refl _⟩, ⟨bs BK624.out⟩, ⟨by repeat (first | (with_reducible first | exact bw HB.out | refine bset ?_ | apply bA | apply bN | apply bD) | exact HB.out)⟩⟩
  subst c6
  have H1 : ((impl_isNumber.f a1 a0_0).bind fun t626 => (impl_OpsOn.j0 k a1 (!t626) a0_0 l0_1)) = some (r1, r2) := by rw [if_pos rfl] at H; exact H
  clear H
  have H := H1
  clear H1
  replace H := Option.bind_eq_some_iff.mp H
  obtain ⟨t626, A70, H⟩ := H
  replace H : (impl_OpsOn.j0 k a1 (!t626) a0_0 l0_1) = some (r1, r2) := H
  have A7 := Aside0.mk A70
  clear A70
  have H' := Aside0.mk H
  clear H
  obtain ⟨hcz8_0, hcz8_1, hfz8_0, hfz8_1⟩ := bz2 BK624.out
  go_wp2_with (first | ((with_reducible refine gate_callee (f := 97) rfl ?_); refine goesL_ (some 7) rfl rfl Try.func97 (by kernel_rfl) rfl #[.agg #[.int .i64 a0_0, .slice A0_1 l0_1.length c0_1]] rfl (by (try simp only [mA_]); first | done | rfl | (simp only [List.length_drop, List.length_take]; rfl)) ?_; (with_reducible refine (impl_IsJobShop.calls k a0_0 _ _ l0_1 true _ ?side1 ?side2 A5.out).mono ?_); (case side1 => first | exact bC HR0_1.out HB.out | exact Kd.C_below HR0_1.out HB.out); (case side2 => exact HC0_1.out); rintro e w9 ⟨rfl, hb⟩; refine ⟨_, rfl, ?_⟩; have n0_ := Aside0.mk (blk_below (bs BK624.out) hb); have n1_ := Aside0.mk (below_step (by repeat (first | (with_reducible first | exact bw HB.out | refine bset ?_ | apply bA | apply bN | apply bD) | exact HB.out)) hb); replace BK624 := n0_; replace HB := n1_; clear n0_ n1_; (try clear hb); (try clear hb2); (try clear hk); (try clear hi); obtain ⟨hcz10_0, hcz10_1, hfz10_0, hfz10_1⟩ := bz2 BK624.out) | (go_at_call 103; (with_reducible refine (impl_isNumber.calls a1 a0_0 t626 _ A7.out).mono ?_); rintro e w' ⟨rfl, ⟨nd, rfl⟩⟩))
  go_meet
  case rel => exact ⟨_, (!t626), (by first | rfl | (simp; done) | (simp [*]; done)), H', ⟨by first | omega | exact Nat.le_refl _⟩, ⟨bs BK624.out⟩, ⟨by repeat (first | (with_reducible first | exact bw HB.out | refine bset ?_ | apply bA | apply bN | apply bD) | exact HB.out)⟩⟩
 case rest =>
  clear HC3
  try clear p2
  try clear c4
  try clear c6
  try clear c9
  try clear hcz10_0
  try clear hcz10_1
  try clear hcz11_0
  try clear hcz11_1
  try clear hcz8_0
  try clear hcz8_1
  try clear hfz10_0
  try clear hfz10_1
  try clear hfz11_0
  try clear hfz11_1
  try clear hfz8_0
  try clear hfz8_1
  obtain ⟨kq, x15_2, rfl, HA, HJ2, BK624, HB⟩ := hcut
  cases kq with
  | zero => exact absurd HA.out (by simp [impl_OpsOn.j0])
  | succ kj2 =>
   have H := HA.out
   clear HA
   simp only [impl_OpsOn.j0] at H
   by_cases c13 : x15_2 = true
   ·subst c13
    have H1 : (some (([] : List Int), false)) = some (r1, r2) := by rw [if_pos rfl] at H; exact H
    clear H
    have H := H1
    clear H1
    simp only [Option.some.injEq, Prod.mk.injEq] at H
    obtain ⟨rfl, rfl⟩ := H
    go_wp2
    go_ret2
    exact ⟨_, by first | rfl | (simp [errW_none, errW_some] <;> rfl) | (simp [*, errW_none, errW_some] <;> rfl), by first | exact Kd.R_nil _ _ _ _ _ | exact Kd.N_nil _ _ _ _ _ | exact Kd.V_nil _ _ _ _ _ | exact Kd.Q_nil _ _ _ _ _ | exact Kd.S_nil _ _ _ _ _, by repeat (first | (with_reducible first | exact bw HB.out | refine bset ?_ | apply bA | apply bN | apply bD) | exact HB.out)⟩
   replace c13 := Bool.eq_false_iff.mpr c13
   subst c13
   have H1 : ((impl_flatOf.f kj2 a0_0 l0_1).bind fun bt627 => ((impl_flat_on.f kj2 bt627.1 bt627.2.1 bt627.2.2 a1).bind fun t636 => (some (t636, true)))) = some (r1, r2) := by rw [if_neg (show ¬ (false = true) by decide)] at H; exact H
   clear H
   have H := H1
   clear H1
   replace H := Option.bind_eq_some_iff.mp H
   obtain ⟨⟨t627, t630, t633⟩, A140, H⟩ := H
   replace H : ((impl_flat_on.f kj2 t627 t630 t633 a1).bind fun t636 => (some (t636, true))) = some (r1, r2) := H
   have A14 := Aside0.mk A140
   clear A140
   replace H := Option.bind_eq_some_iff.mp H
   obtain ⟨t636, A150, H⟩ := H
   replace H : (some (t636, true)) = some (r1, r2) := H
   have A15 := Aside0.mk A150
   clear A150
   simp only [Option.some.injEq, Prod.mk.injEq] at H
   obtain ⟨rfl, rfl⟩ := H
   obtain ⟨hcz16_0, hcz16_1, hfz16_0, hfz16_1⟩ := bz2 BK624.out
   go_wp2_with (first | ((with_reducible refine gate_callee (f := 98) rfl ?_); refine goesL_ (some 17) rfl rfl Try.func98 (by kernel_rfl) rfl #[.agg #[.int .i64 a0_0, .slice A0_1 l0_1.length c0_1]] rfl (by (try simp only [mA_]); first | done | rfl | (simp only [List.length_drop, List.length_take]; rfl)) ?_; (with_reducible refine (impl_flatOf.calls kj2 a0_0 _ _ l0_1 t627 t630 t633 _ ?side1 ?side2 A14.out).mono ?_); (case side1 => first | exact bC HR0_1.out HB.out | exact Kd.C_below HR0_1.out HB.out); (case side2 => exact HC0_1.out); rintro e w17 ⟨v628, v631, v634, rfl, ho0, ho1, ho2, hb⟩; refine ⟨_, rfl, ?_⟩; have n0_ := Aside0.mk (Kd.R_lower ho0 (below_size (by repeat (first | (with_reducible first | exact bw HB.out | refine bset ?_ | apply bA | apply bN | apply bD) | exact HB.out)))); have n1_ := Aside0.mk (Kd.R_lower ho1 (below_size (by repeat (first | (with_reducible first | exact bw HB.out | refine bset ?_ | apply bA | apply bN | apply bD) | exact HB.out)))); have n2_ := Aside0.mk (Kd.R_lower ho2 (below_size (by repeat (first | (with_reducible first | exact bw HB.out | refine bset ?_ | apply bA | apply bN | apply bD) | exact HB.out)))); have n3_ := Aside0.mk (blk_below (bs BK624.out) hb); have n4_ := Aside0.mk (below_step (by repeat (first | (with_reducible first | exact bw HB.out | refine bset ?_ | apply bA | apply bN | apply bD) | exact HB.out)) hb); have HO629 := n0_; have HO632 := n1_; have HO635 := n2_; replace BK624 := n3_; replace HB := n4_; clear n0_ n1_ n2_ n3_ n4_; (try clear hb); (try clear hb2); (try clear hk); (try clear hi); (try clear ho0); (try clear ho1); (try clear ho2); obtain ⟨Ao18, co18, eo18⟩ := Kd.R_slice HO629.out; subst eo18; obtain ⟨Ao19, co19, eo19⟩ := Kd.R_slice HO632.out; subst eo19; obtain ⟨Ao20, co20, eo20⟩ := Kd.R_slice HO635.out; subst eo20) | ((with_reducible refine gate_callee (f := 104) rfl ?_); refine goesL_ (some 19) rfl rfl Try.func104 (by kernel_rfl) rfl #[.agg #[.slice Ao18 t627.length co18, .slice Ao19 t630.length co19, .slice Ao20 t633.length co20], .int .i64 a1] rfl (by (try simp only [mA_]); first | done | rfl | (simp only [List.length_drop, List.length_take]; rfl)) ?_; (with_reducible refine (impl_flat_on.calls kj2 _ _ t627 _ _ t630 _ _ t633 a1 t636 _ ?side1 ?side2 ?side3 ?side4 ?side5 ?side6 A15.out).mono ?_); (case side1 => repeat (first | exact (Kd.R_reads' HO629.out).2.2 | (with_reducible refine Kd.C_alloc ?_ _) | (with_reducible refine Kd.C_drewN ?_ _) | (with_reducible refine Kd.C_drew ?_))); (case side2 => exact (Kd.R_reads' HO629.out).2.1); (case side3 => repeat (first | exact (Kd.R_reads' HO632.out).2.2 | (with_reducible refine Kd.C_alloc ?_ _) | (with_reducible refine Kd.C_drewN ?_ _) | (with_reducible refine Kd.C_drew ?_))); (case side4 => exact (Kd.R_reads' HO632.out).2.1); (case side5 => repeat (first | exact (Kd.R_reads' HO635.out).2.2 | (with_reducible refine Kd.C_alloc ?_ _) | (with_reducible refine Kd.C_drewN ?_ _) | (with_reducible refine Kd.C_drew ?_))); (case side6 => exact (Kd.R_reads' HO635.out).2.1); rintro e w21 ⟨v637, rfl, ho0, hb⟩; refine ⟨_, rfl, ?_⟩; have n0_ := Aside0.mk (Kd.R_below (bR HO629.out) hb); have n1_ := Aside0.mk (Kd.R_elder' (bR HO632.out) (Kd.R_base ho0) hb); have n2_ := Aside0.mk (Kd.R_elder' (bR HO635.out) (Kd.R_base ho0) hb); have n3_ := Aside0.mk (Kd.R_lower (Kd.R_new' (Kd.R_new' ho0 (Kd.R_lt (bR HO632.out))) (Kd.R_lt (bR HO635.out))) (below_size (by repeat (first | (with_reducible first | exact bw HB.out | refine bset ?_ | apply bA | apply bN | apply bD) | exact HB.out)))); have n4_ := Aside0.mk (blk_below (bs BK624.out) hb); have n5_ := Aside0.mk (below_step (by repeat (first | (with_reducible first | exact bw HB.out | refine bset ?_ | apply bA | apply bN | apply bD) | exact HB.out)) hb); replace HO629 := n0_; replace HO632 := n1_; replace HO635 := n2_; have HO638 := n3_; replace BK624 := n4_; replace HB := n5_; clear n0_ n1_ n2_ n3_ n4_ n5_; (try clear hb); (try clear hb2); (try clear hk); (try clear hi); (try clear ho0)))
   go_ret2
   exact ⟨_, by first | rfl | (simp [errW_none, errW_some] <;> rfl) | (simp [*, errW_none, errW_some] <;> rfl), by (with_reducible repeat (first | apply Kd.R_alloc | apply Kd.R_drewN | apply Kd.R_drew)); exact Kd.R_mono HO638.out (fun _ hk => trivial), by repeat (first | (with_reducible first | exact bw HB.out | refine bset ?_ | apply bA | apply bN | apply bD) | exact HB.out)⟩

/-! ### laws_FnExactOpsOn: function 7 -/
def laws_FnExactOpsOn.f (k : Nat) (a0_0 : Int) (l0_1 : List (List (S165))) (a1 : Int) : Option (Bool) := ((laws_szJobShop.f k a0_0 l0_1 1048576).bind fun t1 => (if t1 < 0 then some true else ((laws_toJobShop.f k a0_0 l0_1).bind fun bt2 => ((spec_OpsOn.f k bt2.1 bt2.2 a1).bind fun bt4 => ((laws_toJobShop.f k a0_0 l0_1).bind fun bt6 => ((impl_OpsOn.f k bt6.1 bt6.2 a1).bind fun bt8 => ((laws_eqIntS.f k bt8.1 bt4.1).bind fun t10 => (if t10 = true then (if bt8.2 = bt4.2 then ((laws_toJobShop.f k a0_0 l0_1).bind fun bt11 => ((laws_eqJobShop.f k bt6.1 bt6.2 bt11.1 bt11.2).bind fun t13 => (if t13 = true then ((laws_markJobShop.f k bt6.2 1).bind fun bt14 => (if bt14.1 < 0 then none else ((laws_eqIntS.f k bt8.1 bt4.1).bind fun t16 => (if t16 = true then (if bt8.2 = bt4.2 then ((laws_markIntS.f k bt8.1 1).bind fun bt17 => ((laws_heldIntS.f k bt17.2 1).bind fun t19 => (if t19 < 0 then none else (if t19 = bt17.1 then ((laws_toJobShop.f k a0_0 l0_1).bind fun bt20 => ((impl_OpsOn.f k bt20.1 bt20.2 a1).bind fun bt22 => ((laws_eqIntS.f k bt22.1 bt4.1).bind fun t24 => (if t24 = true then (if bt22.2 = bt4.2 then ((laws_heldIntS.f k bt17.2 1).bind fun t25 => (if t25 < 0 then none else (if t25 = bt17.1 then some true else none))) else none) else none)))) else none)))) else none) else none)))) else none))) else none) else none))))))))
theorem laws_FnExactOpsOn.mono : ∀ a0_0 l0_1 a1 k, LeO (laws_FnExactOpsOn.f k a0_0 l0_1 a1) (laws_FnExactOpsOn.f (k + 1) a0_0 l0_1 a1) := by
 intro a0_0 l0_1 a1 k
 unfold laws_FnExactOpsOn.f
 repeat' first
  | (with_reducible exact impl_OpsOn.mono _ _ _ _)
  | (with_reducible exact laws_eqIntS.mono _ _ _)
  | (with_reducible exact laws_eqJobShop.mono _ _ _ _ _)
  | (with_reducible exact laws_heldIntS.mono _ _ _)
  | (with_reducible exact laws_markIntS.mono _ _ _)
  | (with_reducible exact laws_markJobShop.mono _ _ _)
  | (with_reducible exact laws_szJobShop.mono _ _ _ _)
  | (with_reducible exact laws_toJobShop.mono _ _ _)
  | (with_reducible exact spec_OpsOn.mono _ _ _ _)
  | (with_reducible exact LeO.refl _)
  | (with_reducible exact LeO.none _)
  | (with_reducible refine LeO.ite ?_ ?_)
  | (with_reducible refine LeO.bind ?_ (fun _ => ?_))
theorem laws_FnExactOpsOn.bS {α : Type} {d : Kd α} {e base : Nat} {w' w : World} {ok : Nat → Prop} {v : Value} {xs : List α} (h : Kd.S d e w base ok v xs) [k : Bs w' w] : Kd.S d e w' base ok v xs := by
 obtain ⟨k⟩ := k
 exact Kd.S_below h k.out
theorem laws_FnExactOpsOn.sz {w' w : World} {m : Nat} (h : m ≤ w.heap.size) [k : Bs w' w] : m ≤ w'.heap.size := by
 obtain ⟨k⟩ := k
 exact Nat.le_trans h k.out.size
theorem laws_FnExactOpsOn.cS {α : Type} {d : Kd α} {e base : Nat} {ok : Nat → Prop} {w w' : World} {A : Option Addr} {n c : Nat} {xs : List α} (h : Kd.S d e w base ok (.slice A n c) xs) [k : Bs w' w] : d.C w' A xs.length xs := (Kd.S_reads' (laws_FnExactOpsOn.bS h)).2.2
theorem laws_FnExactOpsOn.cR {α : Type} {d : Kd α} {e base : Nat} {ok : Nat → Prop} {w w' : World} {A : Option Addr} {n c : Nat} {xs : List α} (h : d.R e w base ok (.slice A n c) xs) [k : Bs w' w] : d.C w' A xs.length xs := (Kd.R_reads' (bR h)).2.2
theorem laws_FnExactOpsOn.szS {w : World} {m : Nat} (p : Addr) (u : Value) (h : m ≤ w.heap.size) : m ≤ (w.setCell p u).heap.size := by simpa [World.setCell] using h
theorem laws_FnExactOpsOn.bQ {α : Type} {d : Kd α} {e base : Nat} {w' w : World} {ok : Nat → Prop} {v : Value} {xs : List α} (h : d.Q e w base ok v xs) [k : Bs w' w] : d.Q e w' base ok v xs := by
 obtain ⟨k⟩ := k
 exact Kd.Q_below h k.out
theorem laws_FnExactOpsOn.cQ {α : Type} {d : Kd α} {e base : Nat} {ok : Nat → Prop} {w w' : World} {A : Option Addr} {n c : Nat} {xs : List α} (h : d.Q e w base ok (.slice A n c) xs) [k : Bs w' w] : d.C w' A xs.length xs := (Kd.Q_reads' (laws_FnExactOpsOn.bQ h)).2.2
theorem laws_FnExactOpsOn.newR {α : Type} {d : Kd α} {e m base : Nat} {ok : Nat → Prop} {wc w' : World} {v : Value} {xs : List α} (h : d.R e w' wc.heap.size ok v xs) (hb : base ≤ wc.heap.size) (hm : m ≤ wc.heap.size) (hs : wc.heap.size ≤ w'.heap.size) : ∃ lo hi, (m ≤ lo ∧ lo ≤ hi) ∧ hi ≤ w'.heap.size ∧ d.R e w' base (fun k_ => lo ≤ k_ ∧ k_ < hi) v xs := ⟨wc.heap.size, w'.heap.size, ⟨hm, hs⟩, Nat.le_refl _, Kd.R_lower (Kd.R_mono (Kd.R_bound h) (fun _ hk => ⟨hk.2.1, hk.2.2.1⟩)) hb⟩
theorem laws_FnExactOpsOn.newS {α : Type} {d : Kd α} {e m base : Nat} {ok : Nat → Prop} {wc w' : World} {v : Value} {xs : List α} (h : Kd.S d e w' wc.heap.size ok v xs) (hb : base ≤ wc.heap.size) (hm : m ≤ wc.heap.size) (hs : wc.heap.size ≤ w'.heap.size) : ∃ lo hi, (m ≤ lo ∧ lo ≤ hi) ∧ hi ≤ w'.heap.size ∧ Kd.S d e w' base (fun k_ => lo ≤ k_ ∧ k_ < hi) v xs := ⟨wc.heap.size, w'.heap.size, ⟨hm, hs⟩, Nat.le_refl _, Kd.S_lower (Kd.S_mono (Kd.S_bound h) (fun _ hk => ⟨hk.2.1, hk.2.2.1⟩)) hb⟩
theorem laws_FnExactOpsOn.newQ {α : Type} {d : Kd α} {e m base : Nat} {ok : Nat → Prop} {wc w' : World} {v : Value} {xs : List α} (h : d.Q e w' wc.heap.size ok v xs) (hb : base ≤ wc.heap.size) (hm : m ≤ wc.heap.size) (hs : wc.heap.size ≤ w'.heap.size) : ∃ lo hi, (m ≤ lo ∧ lo ≤ hi) ∧ hi ≤ w'.heap.size ∧ d.Q e w' base (fun k_ => lo ≤ k_ ∧ k_ < hi) v xs := ⟨wc.heap.size, w'.heap.size, ⟨hm, hs⟩, Nat.le_refl _, Kd.Q_lower (Kd.Q_mono (Kd.Q_bound h) (fun _ hk => ⟨hk.2.1, hk.2.2.1⟩)) hb⟩
set_option maxHeartbeats 16000000 in
set_option maxRecDepth 100000 in
theorem laws_FnExactOpsOn.calls (k : Nat) (a0_0 : Int) (A0_1 : Option Addr) (c0_1 : Nat) (l0_1 : List (List (S165))) (a1 : Int) (r : Bool) (w : World) (hr0_1 : Kd.C (Kd.slice 165 k165) w A0_1 l0_1.length l0_1) (hc0_1 : l0_1.length ≤ c0_1) (h : laws_FnExactOpsOn.f k a0_0 l0_1 a1 = some r) :
  Calls Try.prog 7 #[.agg #[.int .i64 a0_0, .slice A0_1 l0_1.length c0_1], .int .i64 a1] w fun e w' => e = .returned (.bool r) ∧ Below w.heap.size w w' := by
 have HR0_1 := Aside0.mk hr0_1
 clear hr0_1
 have HC0_1 := Aside0.mk hc0_1
 clear hc0_1
 have HB := Aside0.mk (Below.refl w.heap.size w)
 have HM := Aside0.mk (Nat.le_refl w.heap.size)
 have BD := Aside0.mk True.intro
 have hu44 := Try.underlying44
 have hu51 := Try.underlying51
 have H := h
 clear h
 unfold laws_FnExactOpsOn.f at H
 replace H := Option.bind_eq_some_iff.mp H
 obtain ⟨t1, A10, H⟩ := H
 have A1 := Aside0.mk A10
 clear A10
 have H' := Aside0.mk (show (if t1 < 0 then some true else ((laws_toJobShop.f k a0_0 l0_1).bind fun bt2 => ((spec_OpsOn.f k bt2.1 bt2.2 a1).bind fun bt4 => ((laws_toJobShop.f k a0_0 l0_1).bind fun bt6 => ((impl_OpsOn.f k bt6.1 bt6.2 a1).bind fun bt8 => ((laws_eqIntS.f k bt8.1 bt4.1).bind fun t10 => (if t10 = true then (if bt8.2 = bt4.2 then ((laws_toJobShop.f k a0_0 l0_1).bind fun bt11 => ((laws_eqJobShop.f k bt6.1 bt6.2 bt11.1 bt11.2).bind fun t13 => (if t13 = true then ((laws_markJobShop.f k bt6.2 1).bind fun bt14 => (if bt14.1 < 0 then none else ((laws_eqIntS.f k bt8.1 bt4.1).bind fun t16 => (if t16 = true then (if bt8.2 = bt4.2 then ((laws_markIntS.f k bt8.1 1).bind fun bt17 => ((laws_heldIntS.f k bt17.2 1).bind fun t19 => (if t19 < 0 then none else (if t19 = bt17.1 then ((laws_toJobShop.f k a0_0 l0_1).bind fun bt20 => ((impl_OpsOn.f k bt20.1 bt20.2 a1).bind fun bt22 => ((laws_eqIntS.f k bt22.1 bt4.1).bind fun t24 => (if t24 = true then (if bt22.2 = bt4.2 then ((laws_heldIntS.f k bt17.2 1).bind fun t25 => (if t25 < 0 then none else (if t25 = bt17.1 then some true else none))) else none) else none)))) else none)))) else none) else none)))) else none))) else none) else none))))))) = some r from H)
 clear H
 have H := H'.out
 clear H'
 by_cases c2 : t1 < 0
 ·rw [if_pos c2] at H
  have c2b0 : decide (t1 < 0) = true := decide_eq_true c2
  clear c2
  obtain rfl := Option.some.inj H
  go_enter Try.func7, Try.ntmps7
  go_wp2_with (first | ((with_reducible refine gate_dst (N := 2) rfl ?_); refine box_event ?hg (N := 2) ?hd (cs := #[.int .i64 a0_0, .slice A0_1 l0_1.length c0_1]) (t := 44) ?hr ?_; (case hd => rfl); (case hg => rfl); (case hr => first | (go_simp; done) | (go_simp; rfl)); intro gb0 hg w1 hbox hb; have hbb := Aside0.mk hb; clear hb; have BK0 := Aside0.mk hbox; have n0_ := Aside0.mk (And.intro (And.intro (show _ ≤ gb0 from by rw [hg]; exact laws_FnExactOpsOn.sz HM.out) (Nat.le_succ gb0)) BD.out); replace BD := n0_; clear n0_; clear HM; have HM := Aside0.mk (show gb0 + 1 ≤ _ from blk_lt hbox); have n0_ := Aside0.mk (below_step (bw HB.out) hbb.out); replace HB := n0_; clear n0_ hbb hbox hg; obtain ⟨hcz1_0_0, hcz1_0_1, hfz1_0_0, hfz1_0_1⟩ := bz2 BK0.out) | ((with_reducible refine gate_callee (f := 31) rfl ?_); refine goesL_ (some 18) rfl rfl Try.func31 (by kernel_rfl) rfl #[.agg #[.int .i64 a0_0, .slice A0_1 l0_1.length c0_1], .int .i64 1048576] rfl (by (try simp only [mA_]); first | done | rfl | (simp only [List.length_drop, List.length_take]; rfl)) ?_; (with_reducible refine (laws_szJobShop.calls k a0_0 A0_1 c0_1 l0_1 1048576 t1 _ ?side1 ?side2 A1.out).mono ?_); (case side1 => exact bC HR0_1.out HB.out); (case side2 => exact HC0_1.out); rintro e w2 ⟨rfl, hb⟩; refine ⟨_, rfl, ?_⟩; have hbb := Aside0.mk hb; clear hb; have n0 := Aside0.mk (blk_below (bs BK0.out) hbb.out); replace BK0 := n0; clear n0; obtain ⟨hcz2_0_0, hcz2_0_1, hfz2_0_0, hfz2_0_1⟩ := bz2 BK0.out; replace HM := Aside0.mk (Nat.le_trans (laws_FnExactOpsOn.sz HM.out) hbb.out.size); have n0_ := Aside0.mk (below_step (bw HB.out) hbb.out); replace HB := n0_; clear n0_ hbb))
  go_ret
  exact ⟨by first | rfl | (simp [*]; done), bw HB.out⟩
 rw [if_neg c2] at H
 have c2b0 : decide (t1 < 0) = false := decide_eq_false c2
 clear c2
 replace H := Option.bind_eq_some_iff.mp H
 obtain ⟨⟨t2, t3⟩, A30, H⟩ := H
 have A3 := Aside0.mk A30
 clear A30
 have H' := Aside0.mk (show ((spec_OpsOn.f k t2 t3 a1).bind fun bt4 => ((laws_toJobShop.f k a0_0 l0_1).bind fun bt6 => ((impl_OpsOn.f k bt6.1 bt6.2 a1).bind fun bt8 => ((laws_eqIntS.f k bt8.1 bt4.1).bind fun t10 => (if t10 = true then (if bt8.2 = bt4.2 then ((laws_toJobShop.f k a0_0 l0_1).bind fun bt11 => ((laws_eqJobShop.f k bt6.1 bt6.2 bt11.1 bt11.2).bind fun t13 => (if t13 = true then ((laws_markJobShop.f k bt6.2 1).bind fun bt14 => (if bt14.1 < 0 then none else ((laws_eqIntS.f k bt8.1 bt4.1).bind fun t16 => (if t16 = true then (if bt8.2 = bt4.2 then ((laws_markIntS.f k bt8.1 1).bind fun bt17 => ((laws_heldIntS.f k bt17.2 1).bind fun t19 => (if t19 < 0 then none else (if t19 = bt17.1 then ((laws_toJobShop.f k a0_0 l0_1).bind fun bt20 => ((impl_OpsOn.f k bt20.1 bt20.2 a1).bind fun bt22 => ((laws_eqIntS.f k bt22.1 bt4.1).bind fun t24 => (if t24 = true then (if bt22.2 = bt4.2 then ((laws_heldIntS.f k bt17.2 1).bind fun t25 => (if t25 < 0 then none else (if t25 = bt17.1 then some true else none))) else none) else none)))) else none)))) else none) else none)))) else none))) else none) else none))))) = some r from H)
 clear H
 have H := H'.out
 clear H'
 replace H := Option.bind_eq_some_iff.mp H
 obtain ⟨⟨t4, t5⟩, A40, H⟩ := H
 have A4 := Aside0.mk A40
 clear A40
 have H' := Aside0.mk (show ((laws_toJobShop.f k a0_0 l0_1).bind fun bt6 => ((impl_OpsOn.f k bt6.1 bt6.2 a1).bind fun bt8 => ((laws_eqIntS.f k bt8.1 t4).bind fun t10 => (if t10 = true then (if bt8.2 = t5 then ((laws_toJobShop.f k a0_0 l0_1).bind fun bt11 => ((laws_eqJobShop.f k bt6.1 bt6.2 bt11.1 bt11.2).bind fun t13 => (if t13 = true then ((laws_markJobShop.f k bt6.2 1).bind fun bt14 => (if bt14.1 < 0 then none else ((laws_eqIntS.f k bt8.1 t4).bind fun t16 => (if t16 = true then (if bt8.2 = t5 then ((laws_markIntS.f k bt8.1 1).bind fun bt17 => ((laws_heldIntS.f k bt17.2 1).bind fun t19 => (if t19 < 0 then none else (if t19 = bt17.1 then ((laws_toJobShop.f k a0_0 l0_1).bind fun bt20 => ((impl_OpsOn.f k bt20.1 bt20.2 a1).bind fun bt22 => ((laws_eqIntS.f k bt22.1 t4).bind fun t24 => (if t24 = true then (if bt22.2 = t5 then ((laws_heldIntS.f k bt17.2 1).bind fun t25 => (if t25 < 0 then none else (if t25 = bt17.1 then some true else none))) else none) else none)))) else none)))) else none) else none)))) else none))) else none) else none)))) = some r from H)
 clear H
 have H := H'.out
 clear H'
 replace H := Option.bind_eq_some_iff.mp H
 obtain ⟨⟨t6, t7⟩, A50, H⟩ := H
 have A5 := Aside0.mk A50
 clear A50
 have H' := Aside0.mk (show ((impl_OpsOn.f k t6 t7 a1).bind fun bt8 => ((laws_eqIntS.f k bt8.1 t4).bind fun t10 => (if t10 = true then (if bt8.2 = t5 then ((laws_toJobShop.f k a0_0 l0_1).bind fun bt11 => ((laws_eqJobShop.f k t6 t7 bt11.1 bt11.2).bind fun t13 => (if t13 = true then ((laws_markJobShop.f k t7 1).bind fun bt14 => (if bt14.1 < 0 then none else ((laws_eqIntS.f k bt8.1 t4).bind fun t16 => (if t16 = true then (if bt8.2 = t5 then ((laws_markIntS.f k bt8.1 1).bind fun bt17 => ((laws_heldIntS.f k bt17.2 1).bind fun t19 => (if t19 < 0 then none else (if t19 = bt17.1 then ((laws_toJobShop.f k a0_0 l0_1).bind fun bt20 => ((impl_OpsOn.f k bt20.1 bt20.2 a1).bind fun bt22 => ((laws_eqIntS.f k bt22.1 t4).bind fun t24 => (if t24 = true then (if bt22.2 = t5 then ((laws_heldIntS.f k bt17.2 1).bind fun t25 => (if t25 < 0 then none else (if t25 = bt17.1 then some true else none))) else none) else none)))) else none)))) else none) else none)))) else none))) else none) else none))) = some r from H)
 clear H
 have H := H'.out
 clear H'
 replace H := Option.bind_eq_some_iff.mp H
 obtain ⟨⟨t8, t9⟩, A60, H⟩ := H
 have A6 := Aside0.mk A60
 clear A60
 have H' := Aside0.mk (show ((laws_eqIntS.f k t8 t4).bind fun t10 => (if t10 = true then (if t9 = t5 then ((laws_toJobShop.f k a0_0 l0_1).bind fun bt11 => ((laws_eqJobShop.f k t6 t7 bt11.1 bt11.2).bind fun t13 => (if t13 = true then ((laws_markJobShop.f k t7 1).bind fun bt14 => (if bt14.1 < 0 then none else ((laws_eqIntS.f k t8 t4).bind fun t16 => (if t16 = true then (if t9 = t5 then ((laws_markIntS.f k t8 1).bind fun bt17 => ((laws_heldIntS.f k bt17.2 1).bind fun t19 => (if t19 < 0 then none else (if t19 = bt17.1 then ((laws_toJobShop.f k a0_0 l0_1).bind fun bt20 => ((impl_OpsOn.f k bt20.1 bt20.2 a1).bind fun bt22 => ((laws_eqIntS.f k bt22.1 t4).bind fun t24 => (if t24 = true then (if bt22.2 = t5 then ((laws_heldIntS.f k bt17.2 1).bind fun t25 => (if t25 < 0 then none else (if t25 = bt17.1 then some true else none))) else none) else none)))) else none)))) else none) else none)))) else none))) else none) else none)) = some r from H)
 clear H
 have H := H'.out
 clear H'
 replace H := Option.bind_eq_some_iff.mp H
 obtain ⟨t10, A70, H⟩ := H
 have A7 := Aside0.mk A70
 clear A70
 have H' := Aside0.mk (show (if t10 = true then (if t9 = t5 then ((laws_toJobShop.f k a0_0 l0_1).bind fun bt11 => ((laws_eqJobShop.f k t6 t7 bt11.1 bt11.2).bind fun t13 => (if t13 = true then ((laws_markJobShop.f k t7 1).bind fun bt14 => (if bt14.1 < 0 then none else ((laws_eqIntS.f k t8 t4).bind fun t16 => (if t16 = true then (if t9 = t5 then ((laws_markIntS.f k t8 1).bind fun bt17 => ((laws_heldIntS.f k bt17.2 1).bind fun t19 => (if t19 < 0 then none else (if t19 = bt17.1 then ((laws_toJobShop.f k a0_0 l0_1).bind fun bt20 => ((impl_OpsOn.f k bt20.1 bt20.2 a1).bind fun bt22 => ((laws_eqIntS.f k bt22.1 t4).bind fun t24 => (if t24 = true then (if bt22.2 = t5 then ((laws_heldIntS.f k bt17.2 1).bind fun t25 => (if t25 < 0 then none else (if t25 = bt17.1 then some true else none))) else none) else none)))) else none)))) else none) else none)))) else none))) else none) else none) = some r from H)
 clear H
 have H := H'.out
 clear H'
 by_cases c8 : t10 = true
 case neg =>
  rw [if_neg c8] at H
  exact absurd H (by simp)
 rw [if_pos c8] at H
 subst c8
 by_cases c9 : t9 = t5
 case neg =>
  rw [if_neg c9] at H
  exact absurd H (by simp)
 rw [if_pos c9] at H
 have c9b0 : (t9 == t5) = true := beq_iff_eq.mpr c9
 have c9b1 : (t9 != t5) = false := bne_eq_false_iff_eq.mpr c9
 clear c9
 replace H := Option.bind_eq_some_iff.mp H
 obtain ⟨⟨t11, t12⟩, A100, H⟩ := H
 have A10 := Aside0.mk A100
 clear A100
 have H' := Aside0.mk (show ((laws_eqJobShop.f k t6 t7 t11 t12).bind fun t13 => (if t13 = true then ((laws_markJobShop.f k t7 1).bind fun bt14 => (if bt14.1 < 0 then none else ((laws_eqIntS.f k t8 t4).bind fun t16 => (if t16 = true then (if t9 = t5 then ((laws_markIntS.f k t8 1).bind fun bt17 => ((laws_heldIntS.f k bt17.2 1).bind fun t19 => (if t19 < 0 then none else (if t19 = bt17.1 then ((laws_toJobShop.f k a0_0 l0_1).bind fun bt20 => ((impl_OpsOn.f k bt20.1 bt20.2 a1).bind fun bt22 => ((laws_eqIntS.f k bt22.1 t4).bind fun t24 => (if t24 = true then (if bt22.2 = t5 then ((laws_heldIntS.f k bt17.2 1).bind fun t25 => (if t25 < 0 then none else (if t25 = bt17.1 then some true else none))) else none) else none)))) else none)))) else none) else none)))) else none)) = some r from H)
 clear H
 have H := H'.out
 clear H'
 replace H := Option.bind_eq_some_iff.mp H
 obtain ⟨t13, A110, H⟩ := H
 have A11 := Aside0.mk A110
 clear A110
 have H' := Aside0.mk (show (if t13 = true then ((laws_markJobShop.f k t7 1).bind fun bt14 => (if bt14.1 < 0 then none else ((laws_eqIntS.f k t8 t4).bind fun t16 => (if t16 = true then (if t9 = t5 then ((laws_markIntS.f k t8 1).bind fun bt17 => ((laws_heldIntS.f k bt17.2 1).bind fun t19 => (if t19 < 0 then none else (if t19 = bt17.1 then ((laws_toJobShop.f k a0_0 l0_1).bind fun bt20 => ((impl_OpsOn.f k bt20.1 bt20.2 a1).bind fun bt22 => ((laws_eqIntS.f k bt22.1 t4).bind fun t24 => (if t24 = true then (if bt22.2 = t5 then ((laws_heldIntS.f k bt17.2 1).bind fun t25 => (if t25 < 0 then none else (if t25 = bt17.1 then some true else none))) else none) else none)))) else none)))) else none) else none)))) else none) = some r from H)
 clear H
 have H := H'.out
 clear H'
 by_cases c12 : t13 = true
 case neg =>
  rw [if_neg c12] at H
  exact absurd H (by simp)
 rw [if_pos c12] at H
 subst c12
 replace H := Option.bind_eq_some_iff.mp H
 obtain ⟨⟨t14, t15⟩, A130, H⟩ := H
 have A13 := Aside0.mk A130
 clear A130
 have H' := Aside0.mk (show (if t14 < 0 then none else ((laws_eqIntS.f k t8 t4).bind fun t16 => (if t16 = true then (if t9 = t5 then ((laws_markIntS.f k t8 1).bind fun bt17 => ((laws_heldIntS.f k bt17.2 1).bind fun t19 => (if t19 < 0 then none else (if t19 = bt17.1 then ((laws_toJobShop.f k a0_0 l0_1).bind fun bt20 => ((impl_OpsOn.f k bt20.1 bt20.2 a1).bind fun bt22 => ((laws_eqIntS.f k bt22.1 t4).bind fun t24 => (if t24 = true then (if bt22.2 = t5 then ((laws_heldIntS.f k bt17.2 1).bind fun t25 => (if t25 < 0 then none else (if t25 = bt17.1 then some true else none))) else none) else none)))) else none)))) else none) else none))) = some r from H)
 clear H
 have H := H'.out
 clear H'
 by_cases c14 : t14 < 0
 ·rw [if_pos c14] at H
  exact absurd H (by simp)
 rw [if_neg c14] at H
 have c14b0 : decide (t14 < 0) = false := decide_eq_false c14
 clear c14
 replace H := Option.bind_eq_some_iff.mp H
 obtain ⟨t16, A150, H⟩ := H
 have A15 := Aside0.mk A150
 clear A150
 have H' := Aside0.mk (show (if t16 = true then (if t9 = t5 then ((laws_markIntS.f k t8 1).bind fun bt17 => ((laws_heldIntS.f k bt17.2 1).bind fun t19 => (if t19 < 0 then none else (if t19 = bt17.1 then ((laws_toJobShop.f k a0_0 l0_1).bind fun bt20 => ((impl_OpsOn.f k bt20.1 bt20.2 a1).bind fun bt22 => ((laws_eqIntS.f k bt22.1 t4).bind fun t24 => (if t24 = true then (if bt22.2 = t5 then ((laws_heldIntS.f k bt17.2 1).bind fun t25 => (if t25 < 0 then none else (if t25 = bt17.1 then some true else none))) else none) else none)))) else none)))) else none) else none) = some r from H)
 clear H
 have H := H'.out
 clear H'
 by_cases c16 : t16 = true
 case neg =>
  rw [if_neg c16] at H
  exact absurd H (by simp)
 rw [if_pos c16] at H
 subst c16
 by_cases c17 : t9 = t5
 case neg =>
  rw [if_neg c17] at H
  exact absurd H (by simp)
 rw [if_pos c17] at H
 have c17b0 : (t9 == t5) = true := beq_iff_eq.mpr c17
 have c17b1 : (t9 != t5) = false := bne_eq_false_iff_eq.mpr c17
 clear c17
 replace H := Option.bind_eq_some_iff.mp H
 obtain ⟨⟨t17, t18⟩, A180, H⟩ := H
 have A18 := Aside0.mk A180
 clear A180
 have H' := Aside0.mk (show ((laws_heldIntS.f k t18 1).bind fun t19 => (if t19 < 0 then none else (if t19 = t17 then ((laws_toJobShop.f k a0_0 l0_1).bind fun bt20 => ((impl_OpsOn.f k bt20.1 bt20.2 a1).bind fun bt22 => ((laws_eqIntS.f k bt22.1 t4).bind fun t24 => (if t24 = true then (if bt22.2 = t5 then ((laws_heldIntS.f k t18 1).bind fun t25 => (if t25 < 0 then none else (if t25 = t17 then some true else none))) else none) else none)))) else none))) = some r from H)
 clear H
 have H := H'.out
 clear H'
 replace H := Option.bind_eq_some_iff.mp H
 obtain ⟨t19, A190, H⟩ := H
 have A19 := Aside0.mk A190
 clear A190
 have H' := Aside0.mk (show (if t19 < 0 then none else (if t19 = t17 then ((laws_toJobShop.f k a0_0 l0_1).bind fun bt20 => ((impl_OpsOn.f k bt20.1 bt20.2 a1).bind fun bt22 => ((laws_eqIntS.f k bt22.1 t4).bind fun t24 => (if t24 = true then (if bt22.2 = t5 then ((laws_heldIntS.f k t18 1).bind fun t25 => (if t25 < 0 then none else (if t25 = t17 then some true else none))) else none) else none)))) else none)) = some r from H)
 clear H
 have H := H'.out
 clear H'
 by_cases c20 : t19 < 0
 ·rw [if_pos c20] at H
  exact absurd H (by simp)
 rw [if_neg c20] at H
 have c20b0 : decide (t19 < 0) = false := decide_eq_false c20
 clear c20
 by_cases c21 : t19 = t17
 case neg =>
  rw [if_neg c21] at H
  exact absurd H (by simp)
 rw [if_pos c21] at H
 have c21b0 : (t19 == t17) = true := beq_iff_eq.mpr c21
 have c21b1 : (t19 != t17) = false := bne_eq_false_iff_eq.mpr c21
 clear c21
 replace H := Option.bind_eq_some_iff.mp H
 obtain ⟨⟨t20, t21⟩, A220, H⟩ := H
 have A22 := Aside0.mk A220
 clear A220
 have H' := Aside0.mk (show ((impl_OpsOn.f k t20 t21 a1).bind fun bt22 => ((laws_eqIntS.f k bt22.1 t4).bind fun t24 => (if t24 = true then (if bt22.2 = t5 then ((laws_heldIntS.f k t18 1).bind fun t25 => (if t25 < 0 then none else (if t25 = t17 then some true else none))) else none) else none))) = some r from H)
 clear H
 have H := H'.out
 clear H'
 replace H := Option.bind_eq_some_iff.mp H
 obtain ⟨⟨t22, t23⟩, A230, H⟩ := H
 have A23 := Aside0.mk A230
 clear A230
 have H' := Aside0.mk (show ((laws_eqIntS.f k t22 t4).bind fun t24 => (if t24 = true then (if t23 = t5 then ((laws_heldIntS.f k t18 1).bind fun t25 => (if t25 < 0 then none else (if t25 = t17 then some true else none))) else none) else none)) = some r from H)
 clear H
 have H := H'.out
 clear H'
 replace H := Option.bind_eq_some_iff.mp H
 obtain ⟨t24, A240, H⟩ := H
 have A24 := Aside0.mk A240
 clear A240
 have H' := Aside0.mk (show (if t24 = true then (if t23 = t5 then ((laws_heldIntS.f k t18 1).bind fun t25 => (if t25 < 0 then none else (if t25 = t17 then some true else none))) else none) else none) = some r from H)
 clear H
 have H := H'.out
 clear H'
 by_cases c25 : t24 = true
 case neg =>
  rw [if_neg c25] at H
  exact absurd H (by simp)
 rw [if_pos c25] at H
 subst c25
 by_cases c26 : t23 = t5
 case neg =>
  rw [if_neg c26] at H
  exact absurd H (by simp)
 rw [if_pos c26] at H
 have c26b0 : (t23 == t5) = true := beq_iff_eq.mpr c26
 have c26b1 : (t23 != t5) = false := bne_eq_false_iff_eq.mpr c26
 clear c26
 replace H := Option.bind_eq_some_iff.mp H
 obtain ⟨t25, A270, H⟩ := H
 have A27 := Aside0.mk A270
 clear A270
 have H' := Aside0.mk (show (if t25 < 0 then none else (if t25 = t17 then some true else none)) = some r from H)
 clear H
 have H := H'.out
 clear H'
 by_cases c28 : t25 < 0
 ·rw [if_pos c28] at H
  exact absurd H (by simp)
 rw [if_neg c28] at H
 have c28b0 : decide (t25 < 0) = false := decide_eq_false c28
 clear c28
 by_cases c29 : t25 = t17
 case neg =>
  rw [if_neg c29] at H
  exact absurd H (by simp)
 rw [if_pos c29] at H
 have c29b0 : (t25 == t17) = true := beq_iff_eq.mpr c29
 have c29b1 : (t25 != t17) = false := bne_eq_false_iff_eq.mpr c29
 clear c29
 obtain rfl := Option.some.inj H
 clear H
 go_enter Try.func7, Try.ntmps7
 go_wp2_with (first | ((with_reducible refine gate_dst (N := 2) rfl ?_); refine box_event ?hg (N := 2) ?hd (cs := #[.int .i64 a0_0, .slice A0_1 l0_1.length c0_1]) (t := 44) ?hr ?_; (case hd => rfl); (case hg => rfl); (case hr => first | (go_simp; done) | (go_simp; rfl)); intro gb0 hg w1 hbox hb; have hbb := Aside0.mk hb; clear hb; have BK0 := Aside0.mk hbox; have n0_ := Aside0.mk (And.intro (And.intro (show _ ≤ gb0 from by rw [hg]; exact laws_FnExactOpsOn.sz HM.out) (Nat.le_succ gb0)) BD.out); replace BD := n0_; clear n0_; clear HM; have HM := Aside0.mk (show gb0 + 1 ≤ _ from blk_lt hbox); have n0_ := Aside0.mk (below_step (bw HB.out) hbb.out); replace HB := n0_; clear n0_ hbb hbox hg; obtain ⟨hcz1_0_0, hcz1_0_1, hfz1_0_0, hfz1_0_1⟩ := bz2 BK0.out) | ((with_reducible refine gate_callee (f := 31) rfl ?_); refine goesL_ (some 18) rfl rfl Try.func31 (by kernel_rfl) rfl #[.agg #[.int .i64 a0_0, .slice A0_1 l0_1.length c0_1], .int .i64 1048576] rfl (by (try simp only [mA_]); first | done | rfl | (simp only [List.length_drop, List.length_take]; rfl)) ?_; (with_reducible refine (laws_szJobShop.calls k a0_0 A0_1 c0_1 l0_1 1048576 t1 _ ?side1 ?side2 A1.out).mono ?_); (case side1 => exact bC HR0_1.out HB.out); (case side2 => exact HC0_1.out); rintro e w2 ⟨rfl, hb⟩; refine ⟨_, rfl, ?_⟩; have hbb := Aside0.mk hb; clear hb; have n0 := Aside0.mk (blk_below (bs BK0.out) hbb.out); replace BK0 := n0; clear n0; obtain ⟨hcz2_0_0, hcz2_0_1, hfz2_0_0, hfz2_0_1⟩ := bz2 BK0.out; replace HM := Aside0.mk (Nat.le_trans (laws_FnExactOpsOn.sz HM.out) hbb.out.size); have n0_ := Aside0.mk (below_step (bw HB.out) hbb.out); replace HB := n0_; clear n0_ hbb) | ((with_reducible refine gate_callee (f := 33) rfl ?_); refine goesL_ (some 23) rfl rfl Try.func33 (by kernel_rfl) rfl #[.agg #[.int .i64 a0_0, .slice A0_1 l0_1.length c0_1]] rfl (by (try simp only [mA_]); first | done | rfl | (simp only [List.length_drop, List.length_take]; rfl)) ?_; (with_reducible refine (laws_toJobShop.calls k a0_0 A0_1 c0_1 l0_1 t2 t3 _ ?side1 ?side2 A3.out).mono ?_); (case side1 => exact bC HR0_1.out HB.out); (case side2 => exact HC0_1.out); rintro e w3 ⟨v3_0, rfl, ho0, hb⟩; refine ⟨_, rfl, ?_⟩; have hbb := Aside0.mk hb; clear hb; have n0 := Aside0.mk (blk_below (bs BK0.out) hbb.out); replace BK0 := n0; clear n0; obtain ⟨hcz3_0_0, hcz3_0_1, hfz3_0_0, hfz3_0_1⟩ := bz2 BK0.out; obtain ⟨lo0, hi0, bd, hm, ho⟩ := laws_FnExactOpsOn.newS (base := w.heap.size) ho0 (below_size (bw HB.out)) (laws_FnExactOpsOn.sz HM.out) hbb.out.size; have HO0 := Aside0.mk ho; replace HM := Aside0.mk hm; have BD2 := Aside0.mk (And.intro bd BD.out); clear BD; have BD := BD2; clear BD2; clear ho ho0 bd hm; obtain ⟨Ao0, co0, eo0⟩ := Kd.S_slice HO0.out; subst eo0; have n0_ := Aside0.mk (below_step (bw HB.out) hbb.out); replace HB := n0_; clear n0_ hbb) | ((with_reducible refine gate_callee (f := 40) rfl ?_); refine goesL_ (some 25) rfl rfl Try.func40 (by kernel_rfl) rfl #[.agg #[.int .i64 t2, .slice Ao0 t3.length co0], .int .i64 a1] rfl (by (try simp only [mA_]); first | done | rfl | (simp only [List.length_drop, List.length_take]; rfl)) ?_; (with_reducible refine (spec_OpsOn.calls k t2 _ _ t3 a1 t4 t5 _ ?side1 ?side2 A4.out).mono ?_); (case side1 => exact laws_FnExactOpsOn.cS HO0.out); (case side2 => exact (Kd.S_reads' HO0.out).2.1); rintro e w4 ⟨v4_0, rfl, ho0, hb⟩; refine ⟨_, rfl, ?_⟩; have hbb := Aside0.mk hb; clear hb; have n0 := Aside0.mk (blk_below (bs BK0.out) hbb.out); replace BK0 := n0; clear n0; obtain ⟨hcz4_0_0, hcz4_0_1, hfz4_0_0, hfz4_0_1⟩ := bz2 BK0.out; obtain ⟨lo1, hi1, bd, hm, ho⟩ := laws_FnExactOpsOn.newR (base := w.heap.size) ho0 (below_size (bw HB.out)) (laws_FnExactOpsOn.sz HM.out) hbb.out.size; have HO1 := Aside0.mk ho; replace HM := Aside0.mk hm; have BD2 := Aside0.mk (And.intro bd BD.out); clear BD; have BD := BD2; clear BD2; clear ho ho0 bd hm; obtain ⟨Ao1, co1, eo1⟩ := Kd.R_slice HO1.out; subst eo1; have n0_ := Aside0.mk (below_step (bw HB.out) hbb.out); replace HB := n0_; clear n0_ hbb) | ((with_reducible refine gate_callee (f := 33) rfl ?_); refine goesL_ (some 29) rfl rfl Try.func33 (by kernel_rfl) rfl #[.agg #[.int .i64 a0_0, .slice A0_1 l0_1.length c0_1]] rfl (by (try simp only [mA_]); first | done | rfl | (simp only [List.length_drop, List.length_take]; rfl)) ?_; (with_reducible refine (laws_toJobShop.calls k a0_0 A0_1 c0_1 l0_1 t6 t7 _ ?side1 ?side2 A5.out).mono ?_); (case side1 => exact bC HR0_1.out HB.out); (case side2 => exact HC0_1.out); rintro e w5 ⟨v5_0, rfl, ho0, hb⟩; refine ⟨_, rfl, ?_⟩; have hbb := Aside0.mk hb; clear hb; have n1 := Aside0.mk (Kd.R_below (bR HO1.out) hbb.out); replace HO1 := n1; clear n1; have n0 := Aside0.mk (blk_below (bs BK0.out) hbb.out); replace BK0 := n0; clear n0; obtain ⟨hcz5_0_0, hcz5_0_1, hfz5_0_0, hfz5_0_1⟩ := bz2 BK0.out; obtain ⟨lo2, hi2, bd, hm, ho⟩ := laws_FnExactOpsOn.newS (base := w.heap.size) ho0 (below_size (bw HB.out)) (laws_FnExactOpsOn.sz HM.out) hbb.out.size; have HO2 := Aside0.mk ho; replace HM := Aside0.mk hm; have BD2 := Aside0.mk (And.intro bd BD.out); clear BD; have BD := BD2; clear BD2; clear ho ho0 bd hm; obtain ⟨Ao2, co2, eo2⟩ := Kd.S_slice HO2.out; subst eo2; have n0_ := Aside0.mk (below_step (bw HB.out) hbb.out); replace HB := n0_; clear n0_ hbb) | ((with_reducible refine gate_dst (N := 8) rfl ?_); refine box_event ?hg (N := 8) ?hd (cs := #[.int .i64 0, .slice none 0 0]) (t := 51) ?hr ?_; (case hd => rfl); (case hg => rfl); (case hr => first | (go_simp; done) | (go_simp; rfl)); intro gb1 hg w6 hbox hb; have hbb := Aside0.mk hb; clear hb; have n1 := Aside0.mk (Kd.R_below (bR HO1.out) hbb.out); replace HO1 := n1; clear n1; have n2 := Aside0.mk (Kd.S_below (laws_FnExactOpsOn.bS HO2.out) hbb.out); replace HO2 := n2; clear n2; have n0 := Aside0.mk (blk_below (bs BK0.out) hbb.out); replace BK0 := n0; clear n0; obtain ⟨hcz6_0_0, hcz6_0_1, hfz6_0_0, hfz6_0_1⟩ := bz2 BK0.out; have BK1 := Aside0.mk hbox; have n0_ := Aside0.mk (And.intro (And.intro (show _ ≤ gb1 from by rw [hg]; exact laws_FnExactOpsOn.sz HM.out) (Nat.le_succ gb1)) BD.out); replace BD := n0_; clear n0_; clear HM; have HM := Aside0.mk (show gb1 + 1 ≤ _ from blk_lt hbox); have n0_ := Aside0.mk (below_step (bw HB.out) hbb.out); replace HB := n0_; clear n0_ hbb hbox hg; obtain ⟨hcz6_1_0, hcz6_1_1, hfz6_1_0, hfz6_1_1⟩ := bz2 BK1.out; have hnb1_0 := (show gb1 ≠ gb0 from by have b_ := BD.out; omega); have hnb0_1 := (show gb0 ≠ gb1 from by have b_ := BD.out; omega)) | ((with_reducible refine gate_callee (f := 41) rfl ?_); refine goesL_ (some 33) rfl rfl Try.func41 (by kernel_rfl) rfl #[.agg #[.int .i64 t6, .slice Ao2 t7.length co2], .int .i64 a1] rfl (by (try simp only [mA_]); first | done | rfl | (simp only [List.length_drop, List.length_take]; rfl)) ?_; have n1 := Aside0.mk (Kd.R_far (p := ⟨gb1, 1, none⟩) (Kd.R_far (p := ⟨gb1, 0, none⟩) HO1.out (fun k_ h1 => by have b_ := BD.out; show k_ ≠ gb1; omega) (.int .i64 t6)) (fun k_ h1 => by have b_ := BD.out; show k_ ≠ gb1; omega) (.slice Ao2 t7.length co2)); replace HO1 := n1; clear n1; have n2 := Aside0.mk (Kd.S_far (p := ⟨gb1, 1, none⟩) (Kd.S_far (p := ⟨gb1, 0, none⟩) HO2.out (fun k_ h1 => by have b_ := BD.out; show k_ ≠ gb1; omega) (.int .i64 t6)) (fun k_ h1 => by have b_ := BD.out; show k_ ≠ gb1; omega) (.slice Ao2 t7.length co2)); replace HO2 := n2; clear n2; have n0 := Aside0.mk (blk_far (p := ⟨gb1, 1, none⟩) (blk_far (p := ⟨gb1, 0, none⟩) BK0.out (by have b_ := BD.out; show gb0 ≠ gb1; omega) (.int .i64 t6)) (by have b_ := BD.out; show gb0 ≠ gb1; omega) (.slice Ao2 t7.length co2)); replace BK0 := n0; clear n0; have n1 := Aside0.mk (blk_put (blk_put BK1.out 0 (.int .i64 t6) rfl) 1 (.slice Ao2 t7.length co2) rfl); replace BK1 := n1; clear n1; have n0_ := Aside0.mk (below_set (v := .slice Ao2 t7.length co2) (j := 1) (below_set (v := .int .i64 t6) (j := 0) HB.out (show w.heap.size ≤ gb1 from by have b_ := BD.out; omega)) (show w.heap.size ≤ gb1 from by have b_ := BD.out; omega)); replace HB := n0_; clear n0_; have n0_ := Aside0.mk (laws_FnExactOpsOn.szS ⟨gb1, 1, none⟩ (.slice Ao2 t7.length co2) (laws_FnExactOpsOn.szS ⟨gb1, 0, none⟩ (.int .i64 t6) HM.out)); replace HM := n0_; clear n0_; (with_reducible refine (impl_OpsOn.calls k t6 _ _ t7 a1 t8 t9 _ ?side1 ?side2 A6.out).mono ?_); (case side1 => exact laws_FnExactOpsOn.cS HO2.out); (case side2 => exact (Kd.S_reads' HO2.out).2.1); rintro e w7 ⟨v7_0, rfl, ho0, hb⟩; refine ⟨_, rfl, ?_⟩; have hbb := Aside0.mk hb; clear hb; have n1 := Aside0.mk (Kd.R_below (bR HO1.out) hbb.out); replace HO1 := n1; clear n1; have n2 := Aside0.mk (Kd.S_below (laws_FnExactOpsOn.bS HO2.out) hbb.out); replace HO2 := n2; clear n2; have n0 := Aside0.mk (blk_below (bs BK0.out) hbb.out); replace BK0 := n0; clear n0; obtain ⟨hcz7_0_0, hcz7_0_1, hfz7_0_0, hfz7_0_1⟩ := bz2 BK0.out; have n1 := Aside0.mk (blk_below (bs BK1.out) hbb.out); replace BK1 := n1; clear n1; obtain ⟨hcz7_1_0, hcz7_1_1, hfz7_1_0, hfz7_1_1⟩ := bz2 BK1.out; obtain ⟨lo3, hi3, bd, hm, ho⟩ := laws_FnExactOpsOn.newR (base := w.heap.size) ho0 (below_size (bw HB.out)) (laws_FnExactOpsOn.sz HM.out) hbb.out.size; have HO3 := Aside0.mk ho; replace HM := Aside0.mk hm; have BD2 := Aside0.mk (And.intro bd BD.out); clear BD; have BD := BD2; clear BD2; clear ho ho0 bd hm; obtain ⟨Ao3, co3, eo3⟩ := Kd.R_slice HO3.out; subst eo3; have n0_ := Aside0.mk (below_step (bw HB.out) hbb.out); replace HB := n0_; clear n0_ hbb) | ((with_reducible refine gate_callee (f := 21) rfl ?_); refine goesL_ (some 38) rfl rfl Try.func21 (by kernel_rfl) rfl #[.slice Ao3 t8.length co3, .slice Ao1 t4.length co1] rfl (by (try simp only [mA_]); first | done | rfl | (simp only [List.length_drop, List.length_take]; rfl)) ?_; (with_reducible refine (laws_eqIntS.calls k _ _ t8 _ _ t4 true _ ?side1 ?side2 ?side3 ?side4 A7.out).mono ?_); (case side1 => exact laws_FnExactOpsOn.cR HO3.out); (case side2 => exact (Kd.R_reads' HO3.out).2.1); (case side3 => exact laws_FnExactOpsOn.cR HO1.out); (case side4 => exact (Kd.R_reads' HO1.out).2.1); rintro e w8 ⟨rfl, ⟨nd8, rfl⟩⟩; refine ⟨_, rfl, ?_⟩))
 have n1 := Aside0.mk (Kd.R_drew (Kd.R_drewN HO1.out nd8))
 replace HO1 := n1
 clear n1
 have n2 := Aside0.mk (Kd.S_drew (Kd.S_drewN HO2.out nd8))
 replace HO2 := n2
 clear n2
 have n3 := Aside0.mk (Kd.R_drew (Kd.R_drewN HO3.out nd8))
 replace HO3 := n3
 clear n3
 have n0 := Aside0.mk (blk_drew (blk_drewN BK0.out nd8))
 replace BK0 := n0
 clear n0
 have n1 := Aside0.mk (blk_drew (blk_drewN BK1.out nd8))
 replace BK1 := n1
 clear n1
 have n0_ := Aside0.mk (below_drew1 (pw_below_drewN HB.out nd8))
 replace HB := n0_
 clear n0_
 have n0_ := Aside0.mk (show _ ≤ ((w7.drewN nd8).drew).heap.size from laws_FnExactOpsOn.sz HM.out)
 replace HM := n0_
 clear n0_
 refine start_ (n := 5) (S := fun w' => w'.cell? ⟨gb1, 0, none⟩ = some (.int .i64 t6) ∧ w'.cell? ⟨gb1, 1, none⟩ = some (.slice Ao2 t7.length co2) ∧ w'.cell? ⟨gb0, 0, none⟩ = some (.int .i64 a0_0) ∧ w'.cell? ⟨gb0, 1, none⟩ = some (.slice A0_1 l0_1.length c0_1)) (ds := []) #[false, false, false, false, false] (by kernel_rfl) rfl rfl ⟨(blk_cell BK1.out 0).trans rfl, (blk_cell BK1.out 1).trans rfl, (blk_cell BK0.out 0).trans rfl, (blk_cell BK0.out 1).trans rfl⟩ (fun hHeld => ?_)
 generalize (w7.drewN nd8).drew = wg8 at HO1 HO2 HO3 BK0 BK1 HB HM hHeld ⊢
 refine take_ (i := 0) (N := some 45) (v := ?_) (a' := ?_) #[true, false, false, false, false] rfl rfl (by kernel_rfl) (fun _ _ _ h => h) (Or.inl ⟨by rfl, ?_⟩) hHeld ?_ ?_
 rotate_left
 ·rintro w' ⟨s0, s1, s2, s3⟩
  go_simp
  with_reducible rfl
 rotate_left
 ·simp only [aq_]
  rfl
 refine take_ (i := 1) (N := some 46) (v := ?_) (a' := ?_) #[true, true, false, false, false] rfl rfl (by kernel_rfl) (fun _ _ _ h => h) (Or.inl ⟨by rfl, ?_⟩) hHeld ?_ ?_
 rotate_left
 ·rintro w' ⟨s0, s1, s2, s3⟩
  go_simp
  with_reducible rfl
 rotate_left
 ·simp only [aq_]
  rfl
 refine one_ (i := 2) (N := some 47) #[true, true, true, false, false] rfl rfl (by kernel_rfl) (by decide) (fun K hK => ?_)
 refine goes_ Try.func33 (by kernel_rfl) rfl #[.agg #[.int .i64 a0_0, .slice A0_1 l0_1.length c0_1]] (by rfl) rfl rfl (by (try simp only [mA_]); first | done | rfl | (simp only [List.length_drop, List.length_take]; rfl)) ?_
 (with_reducible refine (laws_toJobShop.calls k a0_0 A0_1 c0_1 l0_1 t11 t12 _ ?side1 ?side2 A10.out).mono ?_)
 (case side1 => exact bC HR0_1.out HB.out)
 (case side2 => exact HC0_1.out)
 rintro e w9 ⟨v9_0, rfl, ho0, hb⟩
 refine ⟨_, rfl, ?_⟩
 have hbb := Aside0.mk hb
 clear hb
 have n1 := Aside0.mk (Kd.R_below (bR HO1.out) hbb.out)
 replace HO1 := n1
 clear n1
 have n2 := Aside0.mk (Kd.S_below (laws_FnExactOpsOn.bS HO2.out) hbb.out)
 replace HO2 := n2
 clear n2
 have n3 := Aside0.mk (Kd.R_below (bR HO3.out) hbb.out)
 replace HO3 := n3
 clear n3
 have n0 := Aside0.mk (blk_below (bs BK0.out) hbb.out)
 replace BK0 := n0
 clear n0
 obtain ⟨hcz9_0_0, hcz9_0_1, hfz9_0_0, hfz9_0_1⟩ := bz2 BK0.out
 have n1 := Aside0.mk (blk_below (bs BK1.out) hbb.out)
 replace BK1 := n1
 clear n1
 obtain ⟨hcz9_1_0, hcz9_1_1, hfz9_1_0, hfz9_1_1⟩ := bz2 BK1.out
 obtain ⟨lo4, hi4, bd, hm, ho⟩ := laws_FnExactOpsOn.newS (base := w.heap.size) ho0 (below_size (bw HB.out)) (laws_FnExactOpsOn.sz HM.out) hbb.out.size
 have HO4 := Aside0.mk ho
 replace HM := Aside0.mk hm
 have BD2 := Aside0.mk (And.intro bd BD.out)
 clear BD
 have BD := BD2
 clear BD2
 clear ho ho0 bd hm
 obtain ⟨Ao4, co4, eo4⟩ := Kd.S_slice HO4.out
 subst eo4
 have n0_ := Aside0.mk (below_step (bw HB.out) hbb.out)
 replace HB := n0_
 clear n0_ hbb
 refine hK.out _ _ ⟨(blk_cell BK1.out 0).trans rfl, (blk_cell BK1.out 1).trans rfl, (blk_cell BK0.out 0).trans rfl, (blk_cell BK0.out 1).trans rfl⟩ (fun hHeld => ?_)
 clear hK K
 refine norm_ (a' := ?_) ?_ ?_
 rotate_left
 ·show Act.put _ (some 47) _ = _
  simp only [aq_]
  rfl
 refine one_ (i := 3) (N := some 48) #[true, true, true, true, false] rfl rfl (by kernel_rfl) (by decide) (fun K hK => ?_)
 refine goes_ Try.func36 (by kernel_rfl) rfl #[.agg #[.int .i64 t6, .slice Ao2 t7.length co2], .agg #[.int .i64 t11, .slice Ao4 t12.length co4]] (by rfl) rfl rfl (by (try simp only [mA_]); first | done | rfl | (simp only [List.length_drop, List.length_take]; rfl)) ?_
 (with_reducible refine (laws_eqJobShop.calls k t6 _ _ t7 t11 _ _ t12 true _ ?side1 ?side2 ?side3 ?side4 A11.out).mono ?_)
 (case side1 => exact laws_FnExactOpsOn.cS HO2.out)
 (case side2 => exact (Kd.S_reads' HO2.out).2.1)
 (case side3 => exact laws_FnExactOpsOn.cS HO4.out)
 (case side4 => exact (Kd.S_reads' HO4.out).2.1)
 rintro e w10 ⟨rfl, hb⟩
 refine ⟨_, rfl, ?_⟩
 have hbb := Aside0.mk hb
 clear hb
 have n1 := Aside0.mk (Kd.R_below (bR HO1.out) hbb.out)
 replace HO1 := n1
 clear n1
 have n2 := Aside0.mk (Kd.S_below (laws_FnExactOpsOn.bS HO2.out) hbb.out)
 replace HO2 := n2
 clear n2
 have n3 := Aside0.mk (Kd.R_below (bR HO3.out) hbb.out)
 replace HO3 := n3
 clear n3
 have n0 := Aside0.mk (blk_below (bs BK0.out) hbb.out)
 replace BK0 := n0
 clear n0
 obtain ⟨hcz10_0_0, hcz10_0_1, hfz10_0_0, hfz10_0_1⟩ := bz2 BK0.out
 have n1 := Aside0.mk (blk_below (bs BK1.out) hbb.out)
 replace BK1 := n1
 clear n1
 obtain ⟨hcz10_1_0, hcz10_1_1, hfz10_1_0, hfz10_1_1⟩ := bz2 BK1.out
 replace HM := Aside0.mk (Nat.le_trans (laws_FnExactOpsOn.sz HM.out) hbb.out.size)
 have n0_ := Aside0.mk (below_step (bw HB.out) hbb.out)
 replace HB := n0_
 clear n0_ hbb
 refine hK.out _ _ ⟨(blk_cell BK1.out 0).trans rfl, (blk_cell BK1.out 1).trans rfl, (blk_cell BK0.out 0).trans rfl, (blk_cell BK0.out 1).trans rfl⟩ (fun hHeld => ?_)
 clear hK K
 refine norm_ (a' := ?_) ?_ ?_
 rotate_left
 ·show Act.put _ (some 48) _ = _
  simp only [aq_]
  rfl
 refine puq_ (i := 4) (N := some 49) (v := ?_) (a' := ?_) rfl rfl (by kernel_rfl) (fun _ _ _ h => h) (Or.inl ⟨by rfl, ?_⟩) ?_ ?_
 rotate_left
 ·intro w'
  go_simp
  with_reducible rfl
 rotate_left
 ·simp only [aq_]
  rfl
 refine done_ (by kernel_rfl) ?_
 go_wp2_with (first | ((with_reducible refine gate_callee (f := 37) rfl ?_); refine goesL_ (some 52) rfl rfl Try.func37 (by kernel_rfl) rfl #[.agg #[.int .i64 t6, .slice Ao2 t7.length co2], .int .i64 1] rfl (by (try simp only [mA_]); first | done | rfl | (simp only [List.length_drop, List.length_take]; rfl)) ?_; (with_reducible refine (laws_markJobShop.calls k (fun k_ => lo2 ≤ k_ ∧ k_ < hi2) t6 _ t7 1 t14 t15 w _ ?side1 ?side2 A13.out).mono ?_); (case side1 => exact bw HB.out); (case side2 => exact laws_FnExactOpsOn.bS HO2.out); rintro e w11 ⟨rfl, ho0, hb, hk⟩; refine ⟨_, rfl, ?_⟩; have n1 := Aside0.mk (Kd.R_kept (bR HO1.out) hk (fun k_ h1 h2 => by have b_ := BD.out; omega)); replace HO1 := n1; clear n1; have n3 := Aside0.mk (Kd.R_kept (bR HO3.out) hk (fun k_ h1 h2 => by have b_ := BD.out; omega)); replace HO3 := n3; clear n3; have n0 := Aside0.mk (blk_kept (bs BK0.out) hk (fun h2 => by have b_ := BD.out; omega)); replace BK0 := n0; clear n0; obtain ⟨hcz11_0_0, hcz11_0_1, hfz11_0_0, hfz11_0_1⟩ := bz2 BK0.out; have n1 := Aside0.mk (blk_kept (bs BK1.out) hk (fun h2 => by have b_ := BD.out; omega)); replace BK1 := n1; clear n1; obtain ⟨hcz11_1_0, hcz11_1_1, hfz11_1_0, hfz11_1_1⟩ := bz2 BK1.out; have n0_ := Aside0.mk hb; replace HB := n0_; replace HM := Aside0.mk (Nat.le_trans (laws_FnExactOpsOn.sz HM.out) hk.1); clear n0_ ho0 hb hk) | (go_at_call 21; (with_reducible refine (laws_eqIntS.calls k _ _ t8 _ _ t4 true _ ?side1 ?side2 ?side3 ?side4 A15.out).mono ?_); (case side1 => exact laws_FnExactOpsOn.cR HO3.out); (case side2 => exact (Kd.R_reads' HO3.out).2.1); (case side3 => exact laws_FnExactOpsOn.cR HO1.out); (case side4 => exact (Kd.R_reads' HO1.out).2.1); rintro e w12 ⟨rfl, ⟨nd12, rfl⟩⟩) | ((with_reducible refine gate_callee (f := 28) rfl ?_); refine goesL_ (some 68) rfl rfl Try.func28 (by kernel_rfl) rfl #[.slice Ao3 t8.length co3, .int .i64 1] rfl (by (try simp only [mA_]); first | done | rfl | (simp only [List.length_drop, List.length_take]; rfl)) ?_; (with_reducible refine (laws_markIntS.calls k (fun k_ => lo3 ≤ k_ ∧ k_ < hi3) _ t8 1 t17 t18 w _ ?side1 ?side2 A18.out).mono ?_); (case side1 => exact bw HB.out); (case side2 => exact bR HO3.out); rintro e w13 ⟨rfl, ho0, hb, hk⟩; refine ⟨_, rfl, ?_⟩; have n1 := Aside0.mk (Kd.R_kept (bR HO1.out) hk (fun k_ h1 h2 => by have b_ := BD.out; omega)); replace HO1 := n1; clear n1; have n0 := Aside0.mk (blk_kept (bs BK0.out) hk (fun h2 => by have b_ := BD.out; omega)); replace BK0 := n0; clear n0; obtain ⟨hcz13_0_0, hcz13_0_1, hfz13_0_0, hfz13_0_1⟩ := bz2 BK0.out; have n1 := Aside0.mk (blk_kept (bs BK1.out) hk (fun h2 => by have b_ := BD.out; omega)); replace BK1 := n1; clear n1; obtain ⟨hcz13_1_0, hcz13_1_1, hfz13_1_0, hfz13_1_1⟩ := bz2 BK1.out; have LN3 := Aside0.mk (Kd.R_reads' ho0).1; rw [LN3.out] at ho0; replace HO3 := Aside0.mk ho0; have n0_ := Aside0.mk hb; replace HB := n0_; replace HM := Aside0.mk (Nat.le_trans (laws_FnExactOpsOn.sz HM.out) hk.1); clear n0_ ho0 hb hk) | ((with_reducible refine gate_callee (f := 42) rfl ?_); refine goesL_ (some 71) rfl rfl Try.func42 (by kernel_rfl) rfl #[.slice Ao3 t8.length co3, .int .i64 1] rfl (by (try simp only [mA_]); first | done | rfl | (simp only [List.length_drop, List.length_take]; rfl)) ?_; refine calls_args (a' := #[.slice Ao3 t18.length co3, .int .i64 1]) (by rw [LN3.out]) ?_; (with_reducible refine (laws_heldIntS.calls k _ _ t18 1 t19 _ ?side1 ?side2 A19.out).mono ?_); (case side1 => exact laws_FnExactOpsOn.cR HO3.out); (case side2 => exact (Kd.R_reads' HO3.out).2.1); rintro e w14 ⟨rfl, ⟨nd14, rfl⟩⟩; refine ⟨_, rfl, ?_⟩) | ((with_reducible refine gate_callee (f := 33) rfl ?_); refine goesL_ (some 79) rfl rfl Try.func33 (by kernel_rfl) rfl #[.agg #[.int .i64 a0_0, .slice A0_1 l0_1.length c0_1]] rfl (by (try simp only [mA_]); first | done | rfl | (simp only [List.length_drop, List.length_take]; rfl)) ?_; (with_reducible refine (laws_toJobShop.calls k a0_0 A0_1 c0_1 l0_1 t20 t21 _ ?side1 ?side2 A22.out).mono ?_); (case side1 => exact bC HR0_1.out HB.out); (case side2 => exact HC0_1.out); rintro e w15 ⟨v15_0, rfl, ho0, hb⟩; refine ⟨_, rfl, ?_⟩; have hbb := Aside0.mk hb; clear hb; have n1 := Aside0.mk (Kd.R_below (bR HO1.out) hbb.out); replace HO1 := n1; clear n1; have n3 := Aside0.mk (Kd.R_below (bR HO3.out) hbb.out); replace HO3 := n3; clear n3; have n0 := Aside0.mk (blk_below (bs BK0.out) hbb.out); replace BK0 := n0; clear n0; obtain ⟨hcz15_0_0, hcz15_0_1, hfz15_0_0, hfz15_0_1⟩ := bz2 BK0.out; have n1 := Aside0.mk (blk_below (bs BK1.out) hbb.out); replace BK1 := n1; clear n1; obtain ⟨hcz15_1_0, hcz15_1_1, hfz15_1_0, hfz15_1_1⟩ := bz2 BK1.out; obtain ⟨lo5, hi5, bd, hm, ho⟩ := laws_FnExactOpsOn.newS (base := w.heap.size) ho0 (below_size (bw HB.out)) (laws_FnExactOpsOn.sz HM.out) hbb.out.size; have HO5 := Aside0.mk ho; replace HM := Aside0.mk hm; have BD2 := Aside0.mk (And.intro bd BD.out); clear BD; have BD := BD2; clear BD2; clear ho ho0 bd hm; obtain ⟨Ao5, co5, eo5⟩ := Kd.S_slice HO5.out; subst eo5; have n0_ := Aside0.mk (below_step (bw HB.out) hbb.out); replace HB := n0_; clear n0_ hbb) | ((with_reducible refine gate_callee (f := 41) rfl ?_); refine goesL_ (some 81) rfl rfl Try.func41 (by kernel_rfl) rfl #[.agg #[.int .i64 t20, .slice Ao5 t21.length co5], .int .i64 a1] rfl (by (try simp only [mA_]); first | done | rfl | (simp only [List.length_drop, List.length_take]; rfl)) ?_; (with_reducible refine (impl_OpsOn.calls k t20 _ _ t21 a1 t22 t23 _ ?side1 ?side2 A23.out).mono ?_); (case side1 => exact laws_FnExactOpsOn.cS HO5.out); (case side2 => exact (Kd.S_reads' HO5.out).2.1); rintro e w16 ⟨v16_0, rfl, ho0, hb⟩; refine ⟨_, rfl, ?_⟩; have hbb := Aside0.mk hb; clear hb; have n1 := Aside0.mk (Kd.R_below (bR HO1.out) hbb.out); replace HO1 := n1; clear n1; have n3 := Aside0.mk (Kd.R_below (bR HO3.out) hbb.out); replace HO3 := n3; clear n3; have n0 := Aside0.mk (blk_below (bs BK0.out) hbb.out); replace BK0 := n0; clear n0; obtain ⟨hcz16_0_0, hcz16_0_1, hfz16_0_0, hfz16_0_1⟩ := bz2 BK0.out; have n1 := Aside0.mk (blk_below (bs BK1.out) hbb.out); replace BK1 := n1; clear n1; obtain ⟨hcz16_1_0, hcz16_1_1, hfz16_1_0, hfz16_1_1⟩ := bz2 BK1.out; obtain ⟨lo6, hi6, bd, hm, ho⟩ := laws_FnExactOpsOn.newR (base := w.heap.size) ho0 (below_size (bw HB.out)) (laws_FnExactOpsOn.sz HM.out) hbb.out.size; have HO6 := Aside0.mk ho; replace HM := Aside0.mk hm; have BD2 := Aside0.mk (And.intro bd BD.out); clear BD; have BD := BD2; clear BD2; clear ho ho0 bd hm; obtain ⟨Ao6, co6, eo6⟩ := Kd.R_slice HO6.out; subst eo6; have n0_ := Aside0.mk (below_step (bw HB.out) hbb.out); replace HB := n0_; clear n0_ hbb) | ((with_reducible refine gate_callee (f := 21) rfl ?_); refine goesL_ (some 86) rfl rfl Try.func21 (by kernel_rfl) rfl #[.slice Ao6 t22.length co6, .slice Ao1 t4.length co1] rfl (by (try simp only [mA_]); first | done | rfl | (simp only [List.length_drop, List.length_take]; rfl)) ?_; (with_reducible refine (laws_eqIntS.calls k _ _ t22 _ _ t4 true _ ?side1 ?side2 ?side3 ?side4 A24.out).mono ?_); (case side1 => exact laws_FnExactOpsOn.cR HO6.out); (case side2 => exact (Kd.R_reads' HO6.out).2.1); (case side3 => exact laws_FnExactOpsOn.cR HO1.out); (case side4 => exact (Kd.R_reads' HO1.out).2.1); rintro e w17 ⟨rfl, ⟨nd17, rfl⟩⟩; refine ⟨_, rfl, ?_⟩) | ((with_reducible refine gate_callee (f := 42) rfl ?_); refine goesL_ (some 95) rfl rfl Try.func42 (by kernel_rfl) rfl #[.slice Ao3 t8.length co3, .int .i64 1] rfl (by (try simp only [mA_]); first | done | rfl | (simp only [List.length_drop, List.length_take]; rfl)) ?_; refine calls_args (a' := #[.slice Ao3 t18.length co3, .int .i64 1]) (by rw [LN3.out]) ?_; (with_reducible refine (laws_heldIntS.calls k _ _ t18 1 t25 _ ?side1 ?side2 A27.out).mono ?_); (case side1 => exact laws_FnExactOpsOn.cR HO3.out); (case side2 => exact (Kd.R_reads' HO3.out).2.1); rintro e w18 ⟨rfl, ⟨nd18, rfl⟩⟩; refine ⟨_, rfl, ?_⟩))
 go_ret
 exact ⟨by first | rfl | (simp [*]; done), bw HB.out⟩

end Go.Proofs.Ytgpnophjbibhhaa.X
