-- Written by a program of this session (wip/gen/xp.py, over the kit's printer). Not trusted: Lean checks it.
import Derived.Test.YtgpnophjbibhhaaX0
import Derived.Test.YtgpnophjbibhhaaXf31
import Derived.Test.YtgpnophjbibhhaaXf35
import Derived.Test.YtgpnophjbibhhaaXf36
import Derived.Test.YtgpnophjbibhhaaXf37
namespace Go.Proofs.Ytgpnophjbibhhaa.X
open Go.RowKit Go.Proofs.YtgpnophjbibhhaaW.PrintWords Go.Proofs.YtgpnophjbibhhaaW.PrintLast Go.Proofs.YtgpnophjbibhhaaW.PrintMore
attribute [local go_sem] max2_int min2_int max_two min_two max_three min_three max_four min_four   -- for this text's walks alone
set_option linter.unusedVariables false
set_option linter.unusedSimpArgs false

/-! ### spec_l9Ops: function 95 -/
mutual
def spec_l9Ops.l0 : Nat → List (S71) → Int → Int → List (List (S133)) → Option ((List (S71)))
 | 0, _, _, _, _ => none
 | k + 1, x3, x4, x489000, x489001 => if x4 < (x489001.length : Int) then (spec_l9Ops.l1 k x3 x4 0 x489000 x489001) else (some x3)
def spec_l9Ops.l1 : Nat → List (S71) → Int → Int → Int → List (List (S133)) → Option ((List (S71)))
 | 0, _, _, _, _, _ => none
 | k + 1, x3, x4, x5, x489000, x489001 => if 0 ≤ x4 then (if x4 < (x489001.length : Int) then (if x5 < ((rd_L11 x489001 x4).length : Int) then (if x3.length < 8796093022208 then (spec_l9Ops.l1 k (x3 ++ [(⟨x4, x5⟩ : S71)]) x4 (wrap64 (x5 + 1)) x489000 x489001) else (none)) else (spec_l9Ops.l0 k x3 (wrap64 (x4 + 1)) x489000 x489001)) else (none)) else (none)
end
def spec_l9Ops.f (k : Nat) (a0_0 : Int) (l0_1 : List (List (S133))) : Option ((List (S71))) := spec_l9Ops.l0 k (([] : List (S71))) 0 a0_0 l0_1
theorem spec_l9Ops.mono_l : ∀ k, (∀ y0 y1 y2 y3, LeO (spec_l9Ops.l0 k y0 y1 y2 y3) (spec_l9Ops.l0 (k + 1) y0 y1 y2 y3)) ∧ (∀ y0 y1 y2 y3 y4, LeO (spec_l9Ops.l1 k y0 y1 y2 y3 y4) (spec_l9Ops.l1 (k + 1) y0 y1 y2 y3 y4))
 | 0 => ⟨fun _ _ _ _ r h => by simp [spec_l9Ops.l0] at h, fun _ _ _ _ _ r h => by simp [spec_l9Ops.l1] at h⟩
 | k + 1 => by
  obtain ⟨ih0, ih1⟩ := spec_l9Ops.mono_l k
  refine ⟨?_, ?_⟩
  ·intro y0 y1 y2 y3
   unfold spec_l9Ops.l0
   repeat' first
   | (with_reducible exact ih0 _ _ _ _)
   | (with_reducible exact ih1 _ _ _ _ _)
   | (with_reducible exact LeO.refl _)
   | (with_reducible exact LeO.none _)
   | (with_reducible refine LeO.ite ?_ ?_)
   | (with_reducible refine LeO.bind ?_ (fun _ => ?_))
   | exact ih0 _ _ _ _
   | exact ih1 _ _ _ _ _
   | exact LeO.none _
   | refine LeO.ite ?_ ?_
   | refine LeO.bind ?_ (fun _ => ?_)
  ·intro y0 y1 y2 y3 y4
   unfold spec_l9Ops.l1
   repeat' first
   | (with_reducible exact ih0 _ _ _ _)
   | (with_reducible exact ih1 _ _ _ _ _)
   | (with_reducible exact LeO.refl _)
   | (with_reducible exact LeO.none _)
   | (with_reducible refine LeO.ite ?_ ?_)
   | (with_reducible refine LeO.bind ?_ (fun _ => ?_))
   | exact ih0 _ _ _ _
   | exact ih1 _ _ _ _ _
   | exact LeO.none _
   | refine LeO.ite ?_ ?_
   | refine LeO.bind ?_ (fun _ => ?_)
theorem spec_l9Ops.mono : ∀ a0 a1 k, LeO (spec_l9Ops.f k a0 a1) (spec_l9Ops.f (k + 1) a0 a1) := by
 intro a0 a1 k
 obtain ⟨ih0, ih1⟩ := spec_l9Ops.mono_l k
 unfold spec_l9Ops.f
 repeat' first
   | (with_reducible exact ih0 _ _ _ _)
   | (with_reducible exact ih1 _ _ _ _ _)
   | (with_reducible exact LeO.refl _)
   | (with_reducible exact LeO.none _)
   | (with_reducible refine LeO.ite ?_ ?_)
   | (with_reducible refine LeO.bind ?_ (fun _ => ?_))
   | exact ih0 _ _ _ _
   | exact ih1 _ _ _ _ _
   | exact LeO.none _
   | refine LeO.ite ?_ ?_
   | refine LeO.bind ?_ (fun _ => ?_)
set_option maxHeartbeats 8000000 in
set_option maxRecDepth 100000 in
theorem spec_l9Ops.calls (k : Nat) (a0_0 : Int) (A0_1 : Option Addr) (c0_1 : Nat) (l0_1 : List (List (S133))) (r : List (S71)) (w : World) (hr0_1 : Kd.C (Kd.slice 133 k133) w A0_1 l0_1.length l0_1) (hc0_1 : l0_1.length ≤ c0_1) (h : spec_l9Ops.f k a0_0 l0_1 = some r) :
  Calls Try.prog 95 #[.agg #[.int .i64 a0_0, .slice A0_1 l0_1.length c0_1]] w fun e w' => ∃ v0_ : Value, e = .returned (v0_) ∧ Kd.R k71 71 w' w.heap.size (fun _ => True) v0_ r ∧ Below w.heap.size w w' := by
 have hu51 := Try.underlying51
 have hu71 := Try.underlying71
 have HR0_1 := Aside0.mk hr0_1
 have HC0_1 := Aside0.mk hc0_1
 clear hr0_1 hc0_1
 have HB := Aside0.mk (Below.refl w.heap.size w)
 have H : (spec_l9Ops.l0 k (([] : List (S71))) 0 a0_0 l0_1) = some r := h
 clear h
 obtain ⟨y489, hy489⟩ : ∃ y_ : List (S71), y_ = (([] : List (S71))) := ⟨_, rfl⟩
 replace H : (spec_l9Ops.l0 k y489 0 a0_0 l0_1) = some r := by first | (rw [hy489]; with_reducible exact H) | (have H2_ := (Option.bind_some _ _).symm.trans H; rw [hy489]; with_reducible exact H2_) | (have H2_ := (Option.bind_some _ _).symm.trans H; with_reducible exact H2_) | with_reducible exact H | (rw [hy489]; exact H) | exact H
 have Ny489 := Aside0.mk hy489
 clear hy489
 have H' := Aside0.mk H
 clear H
 go_enter Try.func95, Try.ntmps95
 go_wp2_with (first | ((with_reducible refine gate_dst (N := 1) rfl ?_); refine box_event ?hg (N := 1) ?hd (cs := #[.int .i64 a0_0, .slice A0_1 l0_1.length c0_1]) (t := 51) ?hr ?_; (case hd => rfl); (case hg => rfl); (case hr => first | (go_simp; done) | (go_simp; rfl)); intro gb488 hg w2 hbox hb; have n0_ := Aside0.mk (below_step (bw HB.out) hb); have n1_ := Aside0.mk (hbox); have n2_ := ge_ hg HB.out; have n3_ := ge_ hg HB.out; replace HB := n0_; have BK488 := n1_; have GW488 := n2_; have GE488 := n3_; clear n0_ n1_ n2_ n3_; clear hb hbox hg) | ((with_reducible refine gate_dst (N := 6) rfl ?_); refine Kd.R_lit k71 _ 71 ?hg (N := 6) ?hd (xs := ([] : List (S71))) (inner := []) (ok := fun _ => True) (okp := fun _ => True) ?hr ?hp (fun _ hk => hk) trivial (Below.refl _ _) (Nat.le_refl _) (by simp) ?_; (case hd => rfl); (case hg => rfl); (case hr => first | (go_simp; done) | (go_simp; rfl)); (case hp => exact (Reps.none _ _)); intro v490 w3 ho4 hb hg_ hnew_; clear hg_ hnew_; (first | rw [← Ny489.out] at ho4 | (simp only [Int.reduceToNat] at ho4; rw [← Ny489.out] at ho4)); have n0_ := Aside0.mk (Kd.R_lower ho4 (below_size (by repeat (first | (with_reducible first | exact bw HB.out | refine bset ?_ | apply bA | apply bN | apply bD) | exact HB.out)))); have n1_ := Aside0.mk (blk_below (bs BK488.out) hb); have n2_ := Aside0.mk (below_step (by repeat (first | (with_reducible first | exact bw HB.out | refine bset ?_ | apply bA | apply bN | apply bD) | exact HB.out)) hb); have HO491 := n0_; replace BK488 := n1_; replace HB := n2_; clear n0_ n1_ n2_; clear hb ho4))
 go_loopg [3, 4] k (fun kq v3 v4 w' => ∃ (x3_1 : List (S71)) (x4_1 : Int), v4 = .int .i64 x4_1 ∧ Aside0 (spec_l9Ops.l0 kq x3_1 x4_1 a0_0 l0_1 = some r) ∧ Aside0 (kq ≤ k) ∧ Aside0 (Kd.R k71 71 w' w.heap.size (fun _ => True) v3 x3_1) ∧ Aside0 (w'.heap[gb488]? = some (.cells #[.int .i64 a0_0, (.slice A0_1 l0_1.length c0_1)] 51 (0, 0))) ∧ Aside0 (Below w.heap.size w w'))
 case atStart => exact ⟨(y489), (0), (by first | rfl | (simp; done) | (simp [*]; done)), H', ⟨Nat.le_refl _⟩, ⟨bR HO491.out⟩, ⟨bs BK488.out⟩, ⟨by repeat (first | (with_reducible first | exact bw HB.out | refine bset ?_ | apply bA | apply bN | apply bD) | exact HB.out)⟩⟩
 case round =>
  clear H'
  try clear p2
  obtain ⟨x3_1, x4_1, rfl, HA, HK1, HO_3, BK488, HB⟩ := hrel
  cases gk with
  | zero => exact absurd HA.out (by simp [spec_l9Ops.l0])
  | succ k1 =>
   have H := HA.out
   clear HA
   simp only [spec_l9Ops.l0] at H
   by_cases c5 : x4_1 < (l0_1.length : Int)
   rotate_left
   ·rw [if_neg c5] at H
    have c5b0 : decide (x4_1 < (l0_1.length : Int)) = false := decide_eq_false c5
    clear c5
    obtain rfl := Option.some.inj H
    obtain ⟨hcz14_0, hcz14_1, hfz14_0, hfz14_1⟩ := bz2 BK488.out
    go_wp2
    go_ret
    exact ⟨_, by first | rfl | (simp [errW_none, errW_some] <;> rfl) | (simp [*, errW_none, errW_some] <;> rfl), by (with_reducible repeat (first | apply Kd.R_alloc | apply Kd.R_drewN | apply Kd.R_drew)); exact HO_3.out, by repeat (first | (with_reducible first | exact bw HB.out | refine bset ?_ | apply bA | apply bN | apply bD) | exact HB.out)⟩
   rw [if_pos c5] at H
   have c5b0 : decide (x4_1 < (l0_1.length : Int)) = true := decide_eq_true c5
   clear c5
   have H' := Aside0.mk H
   clear H
   obtain ⟨hcz6_0, hcz6_1, hfz6_0, hfz6_1⟩ := bz2 BK488.out
   go_wp2
   go_loopg [3, 5] k1 (fun kq v3 v5 w' => ∃ (x3_2 : List (S71)) (x5_2 : Int), v5 = .int .i64 x5_2 ∧ Aside0 (spec_l9Ops.l1 kq x3_2 x4_1 x5_2 a0_0 l0_1 = some r) ∧ Aside0 (kq ≤ k1) ∧ Aside0 (Kd.R k71 71 w' w.heap.size (fun _ => True) v3 x3_2) ∧ Aside0 (w'.heap[gb488]? = some (.cells #[.int .i64 a0_0, (.slice A0_1 l0_1.length c0_1)] 51 (0, 0))) ∧ Aside0 (Below w.heap.size w w'))
   case atStart => exact ⟨(x3_1), (0), (by first | rfl | (simp; done) | (simp [*]; done)), H', ⟨Nat.le_refl _⟩, ⟨bR HO_3.out⟩, ⟨bs BK488.out⟩, ⟨by repeat (first | (with_reducible first | exact bw HB.out | refine bset ?_ | apply bA | apply bN | apply bD) | exact HB.out)⟩⟩
   case round =>
    clear H'
    try clear p2
    try clear c5
    try clear c5b0
    try clear hcz6_0
    try clear hcz6_1
    try clear hfz6_0
    try clear hfz6_1
    try clear p2
    obtain ⟨x3_2, x5_2, rfl, HA, HK2, HO_3, BK488, HB⟩ := hrel
    cases gk with
    | zero => exact absurd HA.out (by simp [spec_l9Ops.l1])
    | succ k2 =>
     have H := HA.out
     clear HA
     simp only [spec_l9Ops.l1] at H
     by_cases c7 : 0 ≤ x4_1
     rotate_left
     ·rw [if_neg c7] at H
      exact absurd H (by simp)
     rw [if_pos c7] at H
     have c7b0 : decide (0 ≤ x4_1) = true := decide_eq_true c7
     clear c7
     by_cases c8 : x4_1 < (l0_1.length : Int)
     rotate_left
     ·rw [if_neg c8] at H
      exact absurd H (by simp)
     rw [if_pos c8] at H
     have c8b0 : decide (x4_1 < (l0_1.length : Int)) = true := decide_eq_true c8
     clear c8
     by_cases c9 : x5_2 < ((rd_L11 l0_1 x4_1).length : Int)
     rotate_left
     ·rw [if_neg c9] at H
      have c9b0 : decide (x5_2 < ((rd_L11 l0_1 x4_1).length : Int)) = false := decide_eq_false c9
      clear c9
      have H' := Aside0.mk H
      clear H
      obtain ⟨hcz13_0, hcz13_1, hfz13_0, hfz13_1⟩ := bz2 BK488.out
      have p492 : 0 ≤ (x4_1 : Int) := of_decide_eq_true (by first | (with_reducible assumption) | assumption)
      have q492 : x4_1 < (l0_1.length : Int) := of_decide_eq_true (by first | (with_reducible assumption) | assumption)
      obtain ⟨ad492, A492_0, c492_0, e492, hx492_0, hl492_0, hi492_0⟩ := at_L11 HR0_1.out x4_1 p492 q492
      cases e492
      replace hx492_0 := (HB.out.cell (World.block_lt_of_cell? w _ hx492_0)).trans hx492_0
      have HR492_0 := Aside0.mk hi492_0
      have HC492_0 := Aside0.mk hl492_0
      clear hi492_0 hl492_0
      replace p492 := eq_true p492
      replace q492 := eq_true q492
      go_wp2
      go_roundg k2
      case measure => have := HK1.out; have := HK2.out; omega
      case rel => exact ⟨(x3_2), (wrap64 (x4_1 + 1)), (by first | rfl | (simp; done) | (simp [*]; done)), H', ⟨by have := HK1.out; have := HK2.out; omega⟩, ⟨bR HO_3.out⟩, ⟨bs BK488.out⟩, ⟨by repeat (first | (with_reducible first | exact bw HB.out | refine bset ?_ | apply bA | apply bN | apply bD) | exact HB.out)⟩⟩
     rw [if_pos c9] at H
     have c9b0 : decide (x5_2 < ((rd_L11 l0_1 x4_1).length : Int)) = true := decide_eq_true c9
     clear c9
     by_cases c10 : x3_2.length < 8796093022208
     rotate_left
     ·rw [if_neg c10] at H
      exact absurd H (by simp)
     rw [if_pos c10] at H
     have LMc10 := Aside0.mk c10
     clear c10
     obtain ⟨y493, hy493⟩ : ∃ y_ : List (S71), y_ = (x3_2 ++ [(⟨x4_1, x5_2⟩ : S71)]) := ⟨_, rfl⟩
     replace H : (spec_l9Ops.l1 k2 y493 x4_1 (wrap64 (x5_2 + 1)) a0_0 l0_1) = some r := by first | (rw [hy493]; with_reducible exact H) | (have H2_ := (Option.bind_some _ _).symm.trans H; rw [hy493]; with_reducible exact H2_) | (have H2_ := (Option.bind_some _ _).symm.trans H; with_reducible exact H2_) | with_reducible exact H | (rw [hy493]; exact H) | exact H
     have Ny493 := Aside0.mk hy493
     clear hy493
     have H' := Aside0.mk H
     clear H
     obtain ⟨hcz11_0, hcz11_1, hfz11_0, hfz11_1⟩ := bz2 BK488.out
     have p492 : 0 ≤ (x4_1 : Int) := of_decide_eq_true (by first | (with_reducible assumption) | assumption)
     have q492 : x4_1 < (l0_1.length : Int) := of_decide_eq_true (by first | (with_reducible assumption) | assumption)
     obtain ⟨ad492, A492_0, c492_0, e492, hx492_0, hl492_0, hi492_0⟩ := at_L11 HR0_1.out x4_1 p492 q492
     cases e492
     replace hx492_0 := (HB.out.cell (World.block_lt_of_cell? w _ hx492_0)).trans hx492_0
     have HR492_0 := Aside0.mk hi492_0
     have HC492_0 := Aside0.mk hl492_0
     clear hi492_0 hl492_0
     replace p492 := eq_true p492
     replace q492 := eq_true q492
     go_wp2_with (first | ((with_reducible refine gate_builtin (b := .append) (xs := #[.tmp 24, .tmp 28]) rfl ?_); at_builtin; refine Kd.R_append k71 (w0 := w) w.heap.size rfl (.tmp 24) (.tmp 28) 46 71 (.agg #[(.int .i64 0), (.int .i64 0)]) 16 rfl Try.underlying46 info71 rfl (by decide) (by omega) u3 x3_2 (⟨x4_1, x5_2⟩ : S71) [.int .i64 x4_1, .int .i64 x5_2] (fun _ => True) (fun _ => False) rfl rfl ?aP (fun _ hk => hk.elim) ?aF ?aO ?aB ?aS ?aL ?_; (case aP => exact k71_mkM _ _ _ (⟨x4_1, x5_2⟩ : S71)); (case aB => exact (by repeat (first | (with_reducible first | exact bw HB.out | refine bset ?_ | apply bA | apply bN | apply bD) | exact HB.out))); (case aF => exact (fun _ _ => trivial)); (case aO => exact (bR HO_3.out)); (case aS => exact (below_size (by repeat (first | (with_reducible first | exact bw HB.out | refine bset ?_ | apply bA | apply bN | apply bD) | exact HB.out)))); (case aL => have := LMc10.out; omega); intro v494 w12 ho hb hg hat; rw [← Ny493.out] at ho; have n0_ := Aside0.mk (blk_grown (bs BK488.out) hg (Kd.R_ne HO_3.out BK488.out (by decide))); have n1_ := Aside0.mk (hb); have n2_ := Aside0.mk (ho); clear HO_3; replace BK488 := n0_; replace HB := n1_; have HO495 := n2_; clear n0_ n1_ n2_; clear ho hb hg hat))
     go_roundg k2
     case measure => have := HK1.out; have := HK2.out; omega
     case rel => exact ⟨(y493), (wrap64 (x5_2 + 1)), (by first | rfl | (simp; done) | (simp [*]; done)), H', ⟨by have := HK1.out; have := HK2.out; omega⟩, ⟨bR HO495.out⟩, ⟨bs BK488.out⟩, ⟨by repeat (first | (with_reducible first | exact bw HB.out | refine bset ?_ | apply bA | apply bN | apply bD) | exact HB.out)⟩⟩

/-! ### spec_OpsOf: function 32 -/
def spec_OpsOf.f (k : Nat) (a0_0 : Int) (l0_1 : List (List (S133))) : Option ((List (S71)) × Bool) := (spec_l9Good.f k a0_0 l0_1).bind fun t497 => (if t497 = true then ((spec_l9Ops.f k a0_0 l0_1).bind fun t498 => (some (t498, true))) else (some ((([] : List (S71))), false)))
theorem spec_OpsOf.mono : ∀ a0 a1 k, LeO (spec_OpsOf.f k a0 a1) (spec_OpsOf.f (k + 1) a0 a1) := by
 intro a0 a1 k
 unfold spec_OpsOf.f
 repeat' first
   | (with_reducible exact spec_l9Good.mono _ _ _)
   | (with_reducible exact spec_l9Ops.mono _ _ _)
   | (with_reducible exact LeO.refl _)
   | (with_reducible exact LeO.none _)
   | (with_reducible refine LeO.ite ?_ ?_)
   | (with_reducible refine LeO.bind ?_ (fun _ => ?_))
   | exact spec_l9Good.mono _ _ _
   | exact spec_l9Ops.mono _ _ _
   | exact LeO.none _
   | refine LeO.ite ?_ ?_
   | refine LeO.bind ?_ (fun _ => ?_)
set_option maxHeartbeats 8000000 in
set_option maxRecDepth 100000 in
theorem spec_OpsOf.calls (k : Nat) (a0_0 : Int) (A0_1 : Option Addr) (c0_1 : Nat) (l0_1 : List (List (S133))) (r1 : List (S71)) (r2 : Bool) (w : World) (hr0_1 : Kd.C (Kd.slice 133 k133) w A0_1 l0_1.length l0_1) (hc0_1 : l0_1.length ≤ c0_1) (h : spec_OpsOf.f k a0_0 l0_1 = some (r1, r2)) :
  Calls Try.prog 32 #[.agg #[.int .i64 a0_0, .slice A0_1 l0_1.length c0_1]] w fun e w' => ∃ v0_ : Value, e = .returned (.tuple #[v0_, .bool r2]) ∧ Kd.R k71 71 w' w.heap.size (fun _ => True) v0_ r1 ∧ Below w.heap.size w w' := by
 have hu51 := Try.underlying51
 have HR0_1 := Aside0.mk hr0_1
 have HC0_1 := Aside0.mk hc0_1
 clear hr0_1 hc0_1
 have HB := Aside0.mk (Below.refl w.heap.size w)
 have H : ((spec_l9Good.f k a0_0 l0_1).bind fun t497 => (if t497 = true then ((spec_l9Ops.f k a0_0 l0_1).bind fun t498 => (some (t498, true))) else (some ((([] : List (S71))), false)))) = some (r1, r2) := h
 clear h
 replace H := Option.bind_eq_some_iff.mp H
 obtain ⟨t497, A20, H⟩ := H
 replace H : (if t497 = true then ((spec_l9Ops.f k a0_0 l0_1).bind fun t498 => (some (t498, true))) else (some ((([] : List (S71))), false))) = some (r1, r2) := H
 have A2 := Aside0.mk A20
 clear A20
 by_cases c3 : t497 = true
 ·subst c3
  have H1 : ((spec_l9Ops.f k a0_0 l0_1).bind fun t498 => (some (t498, true))) = some (r1, r2) := by rw [if_pos rfl] at H; exact H
  clear H
  have H := H1
  clear H1
  replace H := Option.bind_eq_some_iff.mp H
  obtain ⟨t498, A40, H⟩ := H
  replace H : (some (t498, true)) = some (r1, r2) := H
  have A4 := Aside0.mk A40
  clear A40
  simp only [Option.some.injEq, Prod.mk.injEq] at H
  obtain ⟨rfl, rfl⟩ := H
  go_enter Try.func32, Try.ntmps32
  go_wp2_with (first | ((with_reducible refine gate_dst (N := 1) rfl ?_); refine box_event ?hg (N := 1) ?hd (cs := #[.int .i64 a0_0, .slice A0_1 l0_1.length c0_1]) (t := 51) ?hr ?_; (case hd => rfl); (case hg => rfl); (case hr => first | (go_simp; done) | (go_simp; rfl)); intro gb496 hg w5 hbox hb; have n0_ := Aside0.mk (below_step (bw HB.out) hb); have n1_ := Aside0.mk (hbox); have n2_ := ge_ hg HB.out; have n3_ := ge_ hg HB.out; replace HB := n0_; have BK496 := n1_; have GW496 := n2_; have GE496 := n3_; clear n0_ n1_ n2_ n3_; clear hb hbox hg; obtain ⟨hcz6_0, hcz6_1, hfz6_0, hfz6_1⟩ := bz2 BK496.out) | ((with_reducible refine gate_callee (f := 94) rfl ?_); refine goesL_ (some 5) rfl rfl Try.func94 (by kernel_rfl) rfl #[.agg #[.int .i64 a0_0, .slice A0_1 l0_1.length c0_1]] rfl (by (try simp only [mA_]); first | done | rfl | (simp only [List.length_drop, List.length_take]; rfl)) ?_; (with_reducible refine (spec_l9Good.calls k a0_0 _ _ l0_1 true _ ?side1 ?side2 A2.out).mono ?_); (case side1 => first | exact bC HR0_1.out HB.out | exact Kd.C_below HR0_1.out HB.out); (case side2 => exact HC0_1.out); rintro e w7 ⟨rfl, hb⟩; refine ⟨_, rfl, ?_⟩; have n0_ := Aside0.mk (blk_below (bs BK496.out) hb); have n1_ := Aside0.mk (below_step (by repeat (first | (with_reducible first | exact bw HB.out | refine bset ?_ | apply bA | apply bN | apply bD) | exact HB.out)) hb); replace BK496 := n0_; replace HB := n1_; clear n0_ n1_; (try clear hb); (try clear hb2); (try clear hk); (try clear hi); obtain ⟨hcz8_0, hcz8_1, hfz8_0, hfz8_1⟩ := bz2 BK496.out) | ((with_reducible refine gate_callee (f := 95) rfl ?_); refine goesL_ (some 9) rfl rfl Try.func95 (by kernel_rfl) rfl #[.agg #[.int .i64 a0_0, .slice A0_1 l0_1.length c0_1]] rfl (by (try simp only [mA_]); first | done | rfl | (simp only [List.length_drop, List.length_take]; rfl)) ?_; (with_reducible refine (spec_l9Ops.calls k a0_0 _ _ l0_1 t498 _ ?side1 ?side2 A4.out).mono ?_); (case side1 => first | exact bC HR0_1.out HB.out | exact Kd.C_below HR0_1.out HB.out); (case side2 => exact HC0_1.out); rintro e w9 ⟨v499, rfl, ho0, hb⟩; refine ⟨_, rfl, ?_⟩; have n0_ := Aside0.mk (Kd.R_lower ho0 (below_size (by repeat (first | (with_reducible first | exact bw HB.out | refine bset ?_ | apply bA | apply bN | apply bD) | exact HB.out)))); have n1_ := Aside0.mk (blk_below (bs BK496.out) hb); have n2_ := Aside0.mk (below_step (by repeat (first | (with_reducible first | exact bw HB.out | refine bset ?_ | apply bA | apply bN | apply bD) | exact HB.out)) hb); have HO500 := n0_; replace BK496 := n1_; replace HB := n2_; clear n0_ n1_ n2_; (try clear hb); (try clear hb2); (try clear hk); (try clear hi); (try clear ho0)))
  go_ret2
  exact ⟨_, by first | rfl | (simp [errW_none, errW_some] <;> rfl) | (simp [*, errW_none, errW_some] <;> rfl), by (with_reducible repeat (first | apply Kd.R_alloc | apply Kd.R_drewN | apply Kd.R_drew)); exact HO500.out, by repeat (first | (with_reducible first | exact bw HB.out | refine bset ?_ | apply bA | apply bN | apply bD) | exact HB.out)⟩
 replace c3 := Bool.eq_false_iff.mpr c3
 subst c3
 have H1 : (some ((([] : List (S71))), false)) = some (r1, r2) := by rw [if_neg (show ¬ (false = true) by decide)] at H; exact H
 clear H
 have H := H1
 clear H1
 obtain ⟨y501, hy501⟩ : ∃ y_ : List (S71), y_ = (([] : List (S71))) := ⟨_, rfl⟩
 replace H : (some (y501, false)) = some (r1, r2) := by first | (rw [hy501]; with_reducible exact H) | (have H2_ := (Option.bind_some _ _).symm.trans H; rw [hy501]; with_reducible exact H2_) | (have H2_ := (Option.bind_some _ _).symm.trans H; with_reducible exact H2_) | with_reducible exact H | (rw [hy501]; exact H) | exact H
 have Ny501 := Aside0.mk hy501
 clear hy501
 simp only [Option.some.injEq, Prod.mk.injEq] at H
 obtain ⟨rfl, rfl⟩ := H
 go_enter Try.func32, Try.ntmps32
 go_wp2_with (first | ((with_reducible refine gate_dst (N := 1) rfl ?_); refine box_event ?hg (N := 1) ?hd (cs := #[.int .i64 a0_0, .slice A0_1 l0_1.length c0_1]) (t := 51) ?hr ?_; (case hd => rfl); (case hg => rfl); (case hr => first | (go_simp; done) | (go_simp; rfl)); intro gb496 hg w10 hbox hb; have n0_ := Aside0.mk (below_step (bw HB.out) hb); have n1_ := Aside0.mk (hbox); have n2_ := ge_ hg HB.out; have n3_ := ge_ hg HB.out; replace HB := n0_; have BK496 := n1_; have GW496 := n2_; have GE496 := n3_; clear n0_ n1_ n2_ n3_; clear hb hbox hg; obtain ⟨hcz11_0, hcz11_1, hfz11_0, hfz11_1⟩ := bz2 BK496.out) | ((with_reducible refine gate_callee (f := 94) rfl ?_); refine goesL_ (some 5) rfl rfl Try.func94 (by kernel_rfl) rfl #[.agg #[.int .i64 a0_0, .slice A0_1 l0_1.length c0_1]] rfl (by (try simp only [mA_]); first | done | rfl | (simp only [List.length_drop, List.length_take]; rfl)) ?_; (with_reducible refine (spec_l9Good.calls k a0_0 _ _ l0_1 false _ ?side1 ?side2 A2.out).mono ?_); (case side1 => first | exact bC HR0_1.out HB.out | exact Kd.C_below HR0_1.out HB.out); (case side2 => exact HC0_1.out); rintro e w12 ⟨rfl, hb⟩; refine ⟨_, rfl, ?_⟩; have n0_ := Aside0.mk (blk_below (bs BK496.out) hb); have n1_ := Aside0.mk (below_step (by repeat (first | (with_reducible first | exact bw HB.out | refine bset ?_ | apply bA | apply bN | apply bD) | exact HB.out)) hb); replace BK496 := n0_; replace HB := n1_; clear n0_ n1_; (try clear hb); (try clear hb2); (try clear hk); (try clear hi)) | ((with_reducible refine gate_dst (N := 7) rfl ?_); refine Kd.R_lit k71 _ 71 ?hg (N := 7) ?hd (xs := ([] : List (S71))) (inner := []) (ok := fun _ => True) (okp := fun _ => True) ?hr ?hp (fun _ hk => hk) trivial (Below.refl _ _) (Nat.le_refl _) (by simp) ?_; (case hd => rfl); (case hg => rfl); (case hr => first | (go_simp; done) | (go_simp; rfl)); (case hp => exact (Reps.none _ _)); intro v502 w13 ho14 hb hg_ hnew_; clear hg_ hnew_; (first | rw [← Ny501.out] at ho14 | (simp only [Int.reduceToNat] at ho14; rw [← Ny501.out] at ho14)); have n0_ := Aside0.mk (Kd.R_lower ho14 (below_size (by repeat (first | (with_reducible first | exact bw HB.out | refine bset ?_ | apply bA | apply bN | apply bD) | exact HB.out)))); have n1_ := Aside0.mk (blk_below (bs BK496.out) hb); have n2_ := Aside0.mk (below_step (by repeat (first | (with_reducible first | exact bw HB.out | refine bset ?_ | apply bA | apply bN | apply bD) | exact HB.out)) hb); have HO503 := n0_; replace BK496 := n1_; replace HB := n2_; clear n0_ n1_ n2_; clear hb ho14))
 go_ret2
 exact ⟨_, by first | rfl | (simp [errW_none, errW_some] <;> rfl) | (simp [*, errW_none, errW_some] <;> rfl), by (with_reducible repeat (first | apply Kd.R_alloc | apply Kd.R_drewN | apply Kd.R_drew)); exact HO503.out, by repeat (first | (with_reducible first | exact bw HB.out | refine bset ?_ | apply bA | apply bN | apply bD) | exact HB.out)⟩

/-! ### impl_OpsOf: function 34 -/
abbrev q34_0 : Array Bool := ⟨rl_ [15] false⟩
abbrev q34_6 : Array Bool := ⟨rl_ [4, 2, 1, 1, 1, 6] true⟩
abbrev q34_8 : Array Bool := ⟨rl_ [7, 1, 1, 6] true⟩
abbrev q34_9 : Array Bool := ⟨rl_ [9, 6] true⟩
abbrev q34_11 : Array Bool := ⟨rl_ [11, 4] true⟩
abbrev q34_13 : Array Bool := ⟨rl_ [13, 2] true⟩
abbrev q34_14 : Array Bool := ⟨rl_ [14, 1] true⟩
def impl_OpsOf.l0 : Nat → List (S71) → Int → Int → List (S133) → List Int → List Int → Option ((List (S71)) × Bool)
 | 0, _, _, _, _, _, _ => none
 | k + 1, x5, x14, x15, x566000, x566001, x566002 => if x15 < x14 then (if 0 ≤ x15 then (if x15 < (x566001.length : Int) then (if x15 < (x566002.length : Int) then (if x5.length < 8796093022208 then (impl_OpsOf.l0 k (x5 ++ [(⟨rd x566001 x15, rd x566002 x15⟩ : S71)]) x14 (wrap64 (x15 + 1)) x566000 x566001 x566002) else (none)) else (none)) else (none)) else (none)) else (some (x5, true))
def impl_OpsOf.f (k : Nat) (a0_0 : Int) (l0_1 : List (List (S133))) : Option ((List (S71)) × Bool) := (impl_IsJobShop.f k a0_0 l0_1).bind fun t555 => (if t555 = true then ((impl_flatOf.f k a0_0 l0_1).bind fun bt556 => (impl_OpsOf.l0 k ([] : List (S71)) (bt556.1.length : Int) 0 bt556.1 bt556.2.1 bt556.2.2)) else (some (([] : List (S71)), false)))
theorem impl_OpsOf.mono_l : ∀ k, (∀ y0 y1 y2 y3 y4 y5, LeO (impl_OpsOf.l0 k y0 y1 y2 y3 y4 y5) (impl_OpsOf.l0 (k + 1) y0 y1 y2 y3 y4 y5))
 | 0 => fun _ _ _ _ _ _ r h => by simp [impl_OpsOf.l0] at h
 | k + 1 => by
  have ih0 := impl_OpsOf.mono_l k
  ·intro y0 y1 y2 y3 y4 y5
   unfold impl_OpsOf.l0
   repeat' first
   | (with_reducible exact ih0 _ _ _ _ _ _)
   | (with_reducible exact impl_IsJobShop.mono _ _ _)
   | (with_reducible exact impl_flatOf.mono _ _ _)
   | (with_reducible exact LeO.refl _)
   | (with_reducible exact LeO.none _)
   | (with_reducible refine LeO.ite ?_ ?_)
   | (with_reducible refine LeO.bind ?_ (fun _ => ?_))
   | exact ih0 _ _ _ _ _ _
   | exact impl_IsJobShop.mono _ _ _
   | exact impl_flatOf.mono _ _ _
   | exact LeO.none _
   | refine LeO.ite ?_ ?_
   | refine LeO.bind ?_ (fun _ => ?_)
theorem impl_OpsOf.mono : ∀ a0 a1 k, LeO (impl_OpsOf.f k a0 a1) (impl_OpsOf.f (k + 1) a0 a1) := by
 intro a0 a1 k
 have ih0 := impl_OpsOf.mono_l k
 unfold impl_OpsOf.f
 repeat' first
   | (with_reducible exact ih0 _ _ _ _ _ _)
   | (with_reducible exact impl_IsJobShop.mono _ _ _)
   | (with_reducible exact impl_flatOf.mono _ _ _)
   | (with_reducible exact LeO.refl _)
   | (with_reducible exact LeO.none _)
   | (with_reducible refine LeO.ite ?_ ?_)
   | (with_reducible refine LeO.bind ?_ (fun _ => ?_))
   | exact ih0 _ _ _ _ _ _
   | exact impl_IsJobShop.mono _ _ _
   | exact impl_flatOf.mono _ _ _
   | exact LeO.none _
   | refine LeO.ite ?_ ?_
   | refine LeO.bind ?_ (fun _ => ?_)
def impl_OpsOf.T8 : Bool × List (List Nat × List Nat) := (true, [([], []), ([], []), ([1], [1]), ([], []), ([2, 3], [2, 3]), ([4], [4]), ([], []), ([6], [6]), ([], []), ([7, 8], [7, 8]), ([9], [9]), ([5, 10], [5, 10]), ([11], [11]), ([0, 12], [0, 12]), ([13, 13, 0, 1, 2, 3, 4, 5, 6, 7, 8, 9, 10, 11, 12, 13], [0, 13])])
def impl_OpsOf.B8 : List Nat := [0, 0, 2, 0, 14, 30, 0, 64, 0, 448, 960, 2046, 4094, 8191, 16383]
theorem impl_OpsOf.tab8 : rtab .any (opsOf Try.f34 8) = impl_OpsOf.T8 := by kernel_rfl
theorem impl_OpsOf.bits8 : waitsOk impl_OpsOf.T8.2 impl_OpsOf.B8 = true := by kernel_rfl
set_option maxHeartbeats 8000000 in
set_option maxRecDepth 100000 in
theorem impl_OpsOf.calls (k : Nat) (a0_0 : Int) (A0_1 : Option Addr) (c0_1 : Nat) (l0_1 : List (List (S133))) (r1 : List (S71)) (r2 : Bool) (w : World) (hr0_1 : Kd.C (Kd.slice 133 k133) w A0_1 l0_1.length l0_1) (hc0_1 : l0_1.length ≤ c0_1) (h : impl_OpsOf.f k a0_0 l0_1 = some (r1, r2)) :
  Calls Try.prog 34 #[.agg #[.int .i64 a0_0, .slice A0_1 l0_1.length c0_1]] w fun e w' => ∃ v0_ : Value, e = .returned (.tuple #[v0_, .bool r2]) ∧ Kd.R k71 71 w' w.heap.size (fun _ => True) v0_ r1 ∧ Below w.heap.size w w' := by
 have hu51 := Try.underlying51
 have hu109 := Try.underlying109
 have hu71 := Try.underlying71
 have HR0_1 := Aside0.mk hr0_1
 have HC0_1 := Aside0.mk hc0_1
 clear hr0_1 hc0_1
 have HB := Aside0.mk (Below.refl w.heap.size w)
 have H : ((impl_IsJobShop.f k a0_0 l0_1).bind fun t555 => (if t555 = true then ((impl_flatOf.f k a0_0 l0_1).bind fun bt556 => (impl_OpsOf.l0 k ([] : List (S71)) (bt556.1.length : Int) 0 bt556.1 bt556.2.1 bt556.2.2)) else (some (([] : List (S71)), false)))) = some (r1, r2) := h
 clear h
 replace H := Option.bind_eq_some_iff.mp H
 obtain ⟨t555, A20, H⟩ := H
 replace H : (if t555 = true then ((impl_flatOf.f k a0_0 l0_1).bind fun bt556 => (impl_OpsOf.l0 k ([] : List (S71)) (bt556.1.length : Int) 0 bt556.1 bt556.2.1 bt556.2.2)) else (some (([] : List (S71)), false))) = some (r1, r2) := H
 have A2 := Aside0.mk A20
 clear A20
 by_cases c3 : t555 = true
 rotate_left
 ·replace c3 := Bool.eq_false_iff.mpr c3
  subst c3
  have H1 : (some (([] : List (S71)), false)) = some (r1, r2) := by rw [if_neg (show ¬ (false = true) by decide)] at H; exact H
  clear H
  have H := H1
  clear H1
  simp only [Option.some.injEq, Prod.mk.injEq] at H
  obtain ⟨rfl, rfl⟩ := H
  go_enter Try.func34, Try.ntmps34
  go_wp2_with (first | ((with_reducible refine gate_dst (N := 1) rfl ?_); refine box_event ?hg (N := 1) ?hd (cs := #[.int .i64 a0_0, .slice A0_1 l0_1.length c0_1]) (t := 51) ?hr ?_; (case hd => rfl); (case hg => rfl); (case hr => first | (go_simp; done) | (go_simp; rfl)); intro gb554 hg w23 hbox hb; have n0_ := Aside0.mk (below_step (bw HB.out) hb); have n1_ := Aside0.mk (hbox); have n2_ := ge_ hg HB.out; have n3_ := ge_ hg HB.out; replace HB := n0_; have BK554 := n1_; have GW554 := n2_; have GE554 := n3_; clear n0_ n1_ n2_ n3_; clear hb hbox hg; obtain ⟨hcz24_0, hcz24_1, hfz24_0, hfz24_1⟩ := bz2 BK554.out) | ((with_reducible refine gate_callee (f := 97) rfl ?_); refine goesL_ (some 8) rfl rfl Try.func97 (by kernel_rfl) rfl #[.agg #[.int .i64 a0_0, .slice A0_1 l0_1.length c0_1]] rfl (by (try simp only [mA_]); first | done | rfl | (simp only [List.length_drop, List.length_take]; rfl)) ?_; (with_reducible refine (impl_IsJobShop.calls k a0_0 _ _ l0_1 false _ ?side1 ?side2 A2.out).mono ?_); (case side1 => first | exact bC HR0_1.out HB.out | exact Kd.C_below HR0_1.out HB.out); (case side2 => exact HC0_1.out); rintro e w25 ⟨rfl, hb⟩; refine ⟨_, rfl, ?_⟩; have n0_ := Aside0.mk (blk_below (bs BK554.out) hb); have n1_ := Aside0.mk (below_step (by repeat (first | (with_reducible first | exact bw HB.out | refine bset ?_ | apply bA | apply bN | apply bD) | exact HB.out)) hb); replace BK554 := n0_; replace HB := n1_; clear n0_ n1_; (try clear hb); (try clear hb2); (try clear hk); (try clear hi)))
  go_ret2
  exact ⟨_, by first | rfl | (simp [errW_none, errW_some] <;> rfl) | (simp [*, errW_none, errW_some] <;> rfl), by first | exact Kd.R_nil _ _ _ _ _ | exact Kd.N_nil _ _ _ _ _ | exact Kd.V_nil _ _ _ _ _ | exact Kd.Q_nil _ _ _ _ _ | exact Kd.S_nil _ _ _ _ _, by repeat (first | (with_reducible first | exact bw HB.out | refine bset ?_ | apply bA | apply bN | apply bD) | exact HB.out)⟩
 subst c3
 have H1 : ((impl_flatOf.f k a0_0 l0_1).bind fun bt556 => (impl_OpsOf.l0 k ([] : List (S71)) (bt556.1.length : Int) 0 bt556.1 bt556.2.1 bt556.2.2)) = some (r1, r2) := by rw [if_pos rfl] at H; exact H
 clear H
 have H := H1
 clear H1
 replace H := Option.bind_eq_some_iff.mp H
 obtain ⟨⟨t556, t559, t562⟩, A40, H⟩ := H
 replace H : (impl_OpsOf.l0 k ([] : List (S71)) (t556.length : Int) 0 t556 t559 t562) = some (r1, r2) := H
 have A4 := Aside0.mk A40
 clear A40
 have H' := Aside0.mk H
 clear H
 go_enter Try.func34, Try.ntmps34
 go_wp2_with (first | ((with_reducible refine gate_dst (N := 1) rfl ?_); refine box_event ?hg (N := 1) ?hd (cs := #[.int .i64 a0_0, .slice A0_1 l0_1.length c0_1]) (t := 51) ?hr ?_; (case hd => rfl); (case hg => rfl); (case hr => first | (go_simp; done) | (go_simp; rfl)); intro gb554 hg w5 hbox hb; have n0_ := Aside0.mk (below_step (bw HB.out) hb); have n1_ := Aside0.mk (hbox); have n2_ := ge_ hg HB.out; have n3_ := ge_ hg HB.out; replace HB := n0_; have BK554 := n1_; have GW554 := n2_; have GE554 := n3_; clear n0_ n1_ n2_ n3_; clear hb hbox hg; obtain ⟨hcz6_0, hcz6_1, hfz6_0, hfz6_1⟩ := bz2 BK554.out) | ((with_reducible refine gate_callee (f := 97) rfl ?_); refine goesL_ (some 8) rfl rfl Try.func97 (by kernel_rfl) rfl #[.agg #[.int .i64 a0_0, .slice A0_1 l0_1.length c0_1]] rfl (by (try simp only [mA_]); first | done | rfl | (simp only [List.length_drop, List.length_take]; rfl)) ?_; (with_reducible refine (impl_IsJobShop.calls k a0_0 _ _ l0_1 true _ ?side1 ?side2 A2.out).mono ?_); (case side1 => first | exact bC HR0_1.out HB.out | exact Kd.C_below HR0_1.out HB.out); (case side2 => exact HC0_1.out); rintro e w7 ⟨rfl, hb⟩; refine ⟨_, rfl, ?_⟩; have n0_ := Aside0.mk (blk_below (bs BK554.out) hb); have n1_ := Aside0.mk (below_step (by repeat (first | (with_reducible first | exact bw HB.out | refine bset ?_ | apply bA | apply bN | apply bD) | exact HB.out)) hb); replace BK554 := n0_; replace HB := n1_; clear n0_ n1_; (try clear hb); (try clear hb2); (try clear hk); (try clear hi); obtain ⟨hcz8_0, hcz8_1, hfz8_0, hfz8_1⟩ := bz2 BK554.out) | ((with_reducible refine gate_callee (f := 98) rfl ?_); refine goesL_ (some 11) rfl rfl Try.func98 (by kernel_rfl) rfl #[.agg #[.int .i64 a0_0, .slice A0_1 l0_1.length c0_1]] rfl (by (try simp only [mA_]); first | done | rfl | (simp only [List.length_drop, List.length_take]; rfl)) ?_; (with_reducible refine (impl_flatOf.calls k a0_0 _ _ l0_1 t556 t559 t562 _ ?side1 ?side2 A4.out).mono ?_); (case side1 => first | exact bC HR0_1.out HB.out | exact Kd.C_below HR0_1.out HB.out); (case side2 => exact HC0_1.out); rintro e w9 ⟨v557, v560, v563, rfl, ho0, ho1, ho2, hb⟩; refine ⟨_, rfl, ?_⟩; have n0_ := Aside0.mk (Kd.R_lower ho0 (below_size (by repeat (first | (with_reducible first | exact bw HB.out | refine bset ?_ | apply bA | apply bN | apply bD) | exact HB.out)))); have n1_ := Aside0.mk (Kd.R_lower ho1 (below_size (by repeat (first | (with_reducible first | exact bw HB.out | refine bset ?_ | apply bA | apply bN | apply bD) | exact HB.out)))); have n2_ := Aside0.mk (Kd.R_lower ho2 (below_size (by repeat (first | (with_reducible first | exact bw HB.out | refine bset ?_ | apply bA | apply bN | apply bD) | exact HB.out)))); have n3_ := Aside0.mk (blk_below (bs BK554.out) hb); have n4_ := Aside0.mk (below_step (by repeat (first | (with_reducible first | exact bw HB.out | refine bset ?_ | apply bA | apply bN | apply bD) | exact HB.out)) hb); have HO558 := n0_; have HO561 := n1_; have HO564 := n2_; replace BK554 := n3_; replace HB := n4_; clear n0_ n1_ n2_ n3_ n4_; (try clear hb); (try clear hb2); (try clear hk); (try clear hi); (try clear ho0); (try clear ho1); (try clear ho2)) | ((with_reducible refine gate_dst (N := 4) rfl ?_); refine box_event ?hg (N := 4) ?hd (cs := #[.slice none 0 0, .slice none 0 0, .slice none 0 0]) (t := 109) ?hr ?_; (case hd => rfl); (case hg => rfl); (case hr => first | (go_simp; done) | (go_simp; rfl)); intro gb565 hg w10 hbox hb; have n0_ := Aside0.mk (Kd.R_below (bR HO558.out) hb); have n1_ := Aside0.mk (Kd.R_below (bR HO561.out) hb); have n2_ := Aside0.mk (Kd.R_below (bR HO564.out) hb); have n3_ := Aside0.mk (blk_below (bs BK554.out) hb); have n4_ := Aside0.mk (below_step (by repeat (first | (with_reducible first | exact bw HB.out | refine bset ?_ | apply bA | apply bN | apply bD) | exact HB.out)) hb); have n5_ := Aside0.mk (hbox); have n6_ := Aside0.mk ((by rw [hg]; exact (below_size (by repeat (first | (with_reducible first | exact bw HB.out | refine bset ?_ | apply bA | apply bN | apply bD) | exact HB.out))) : w.heap.size ≤ gb565)); have n7_ := Aside0.mk ((by rw [hg]; exact (below_size (by repeat (first | (with_reducible first | exact bw HB.out | refine bset ?_ | apply bA | apply bN | apply bD) | exact HB.out))) : w.heap.size ≤ gb565)); have n8_ := ne_ hg BK554.out; have n9_ := en_ hg BK554.out; replace HO558 := n0_; replace HO561 := n1_; replace HO564 := n2_; replace BK554 := n3_; replace HB := n4_; have BK565 := n5_; have GW565 := n6_; have GE565 := n7_; have NB554_565 := n8_; have NB565_554 := n9_; clear n0_ n1_ n2_ n3_ n4_ n5_ n6_ n7_ n8_ n9_; clear hb hbox hg; obtain ⟨Ao11, co11, eo11⟩ := Kd.R_slice HO558.out; subst eo11; have hnb12 := NB565_554.out; have hnc12 := NB554_565.out; obtain ⟨hcz13_0, hcz13_1, hcz13_2, hfz13_0, hfz13_1, hfz13_2⟩ := bz3 BK565.out; obtain ⟨Ao14, co14, eo14⟩ := Kd.R_slice HO561.out; subst eo14; obtain ⟨Ao15, co15, eo15⟩ := Kd.R_slice HO564.out; subst eo15))
 go_loopg [5, 15] k (fun kq v5 v15 w' => ∃ (x5_1 : List (S71)) (x15_1 : Int), v15 = .int .i64 x15_1 ∧ Aside0 (impl_OpsOf.l0 kq x5_1 (t556.length : Int) x15_1 t556 t559 t562 = some (r1, r2)) ∧ Aside0 (kq ≤ k) ∧ Aside0 (Kd.R k71 71 w' w.heap.size (fun _ => True) v5 x5_1) ∧ Aside0 (Kd.R k133 133 w' w.heap.size (fun _ => True) (.slice Ao11 t556.length co11) t556) ∧ Aside0 (Kd.R (Kd.int .i64) 3 w' w.heap.size (fun k_ => some k_ ≠ ((.slice Ao15 t562.length co15) : Value).ownBlock) (.slice Ao14 t559.length co14) t559) ∧ Aside0 (Kd.R (Kd.int .i64) 3 w' w.heap.size (fun k_ => some k_ ≠ ((.slice Ao14 t559.length co14) : Value).ownBlock) (.slice Ao15 t562.length co15) t562) ∧ Aside0 (w'.heap[gb554]? = some (.cells #[.int .i64 a0_0, (.slice A0_1 l0_1.length c0_1)] 51 (0, 0))) ∧ Aside0 (w'.heap[gb565]? = some (.cells #[(.slice Ao11 t556.length co11), (.slice Ao14 t559.length co14), (.slice Ao15 t562.length co15)] 109 (0, 0))) ∧ Aside0 (Below w.heap.size w w'))
 case atStart => exact ⟨(([] : List (S71))), (0), (by first | rfl | (simp; done) | (simp [*]; done)), H', ⟨Nat.le_refl _⟩, ⟨by first | exact Kd.R_nil _ _ _ _ _ | exact Kd.N_nil _ _ _ _ _ | exact Kd.V_nil _ _ _ _ _ | exact Kd.Q_nil _ _ _ _ _ | exact Kd.S_nil _ _ _ _ _⟩, ⟨by (with_reducible repeat (first | apply Kd.R_alloc | apply Kd.R_drewN | apply Kd.R_drew)); exact Kd.R_mono (Kd.R_far (p := ⟨gb565, 2, none⟩) (Kd.R_far (p := ⟨gb565, 1, none⟩) (Kd.R_far (p := ⟨gb565, 0, none⟩) (Kd.R_types HO558.out BK565.out (by decide)) (fun _ hk => hk.2) (.slice Ao11 t556.length co11)) (fun _ hk => hk.2) (.slice Ao14 t559.length co14)) (fun _ hk => hk.2) (.slice Ao15 t562.length co15)) (fun _ hk => trivial)⟩, ⟨by (with_reducible repeat (first | apply Kd.R_alloc | apply Kd.R_drewN | apply Kd.R_drew)); exact Kd.R_mono (Kd.R_far (p := ⟨gb565, 2, none⟩) (Kd.R_far (p := ⟨gb565, 1, none⟩) (Kd.R_far (p := ⟨gb565, 0, none⟩) (Kd.R_types HO561.out BK565.out (by decide)) (fun _ hk => hk.2) (.slice Ao11 t556.length co11)) (fun _ hk => hk.2) (.slice Ao14 t559.length co14)) (fun _ hk => hk.2) (.slice Ao15 t562.length co15)) (fun _ hk => hk.1)⟩, ⟨by (with_reducible repeat (first | apply Kd.R_alloc | apply Kd.R_drewN | apply Kd.R_drew)); exact Kd.R_mono (Kd.R_far (p := ⟨gb565, 2, none⟩) (Kd.R_far (p := ⟨gb565, 1, none⟩) (Kd.R_far (p := ⟨gb565, 0, none⟩) (Kd.R_types HO564.out BK565.out (by decide)) (fun _ hk => hk.2) (.slice Ao11 t556.length co11)) (fun _ hk => hk.2) (.slice Ao14 t559.length co14)) (fun _ hk => hk.2) (.slice Ao15 t562.length co15)) (fun _ hk => hk.1)⟩, ⟨by (with_reducible repeat (first | refine blk_drewN ?_ _ | refine blk_drew ?_ | refine blk_alloc ?_ _)); refine blk_far ?_ NB554_565.out _; (with_reducible repeat (first | refine blk_drewN ?_ _ | refine blk_drew ?_ | refine blk_alloc ?_ _)); refine blk_far ?_ NB554_565.out _; (with_reducible repeat (first | refine blk_drewN ?_ _ | refine blk_drew ?_ | refine blk_alloc ?_ _)); refine blk_far ?_ NB554_565.out _; exact bs BK554.out⟩, ⟨by (with_reducible repeat (first | refine blk_drewN ?_ _ | refine blk_drew ?_ | refine blk_alloc ?_ _)); refine blk_put (cs := #[.slice Ao11 t556.length co11, .slice Ao14 t559.length co14, .slice none 0 0]) ?_ 2 _ rfl; (with_reducible repeat (first | refine blk_drewN ?_ _ | refine blk_drew ?_ | refine blk_alloc ?_ _)); refine blk_put (cs := #[.slice Ao11 t556.length co11, .slice none 0 0, .slice none 0 0]) ?_ 1 _ rfl; (with_reducible repeat (first | refine blk_drewN ?_ _ | refine blk_drew ?_ | refine blk_alloc ?_ _)); refine blk_put (cs := #[.slice none 0 0, .slice none 0 0, .slice none 0 0]) ?_ 0 _ rfl; exact bs BK565.out⟩, ⟨by repeat (first | (with_reducible first | exact bw HB.out | refine bset ?_ | apply bA | apply bN | apply bD) | exact HB.out)⟩⟩
 case round =>
  clear H'
  try clear c1
  try clear p2
  try clear c3
  try clear c9
  try clear c12
  try clear hcz13_0
  try clear hcz13_1
  try clear hcz13_2
  try clear hcz6_0
  try clear hcz6_1
  try clear hcz8_0
  try clear hcz8_1
  try clear hfz13_0
  try clear hfz13_1
  try clear hfz13_2
  try clear hfz6_0
  try clear hfz6_1
  try clear hfz8_0
  try clear hfz8_1
  obtain ⟨x5_1, x15_1, rfl, HA, HK1, HO_5, HO_566000, HO_566001, HO_566002, BK554, BK565, HB⟩ := hrel
  cases gk with
  | zero => exact absurd HA.out (by simp [impl_OpsOf.l0])
  | succ k1 =>
   have H := HA.out
   clear HA
   simp only [impl_OpsOf.l0] at H
   by_cases c16 : x15_1 < (t556.length : Int)
   rotate_left
   ·rw [if_neg c16] at H
    have c16b0 : decide (x15_1 < (t556.length : Int)) = false := decide_eq_false c16
    clear c16
    simp only [Option.some.injEq, Prod.mk.injEq] at H
    obtain ⟨rfl, rfl⟩ := H
    go_wp2
    go_ret2
    exact ⟨_, by first | rfl | (simp [errW_none, errW_some] <;> rfl) | (simp [*, errW_none, errW_some] <;> rfl), by (with_reducible repeat (first | apply Kd.R_alloc | apply Kd.R_drewN | apply Kd.R_drew)); exact HO_5.out, by repeat (first | (with_reducible first | exact bw HB.out | refine bset ?_ | apply bA | apply bN | apply bD) | exact HB.out)⟩
   rw [if_pos c16] at H
   have c16b0 : decide (x15_1 < (t556.length : Int)) = true := decide_eq_true c16
   clear c16
   by_cases c17 : 0 ≤ x15_1
   rotate_left
   ·rw [if_neg c17] at H
    exact absurd H (by simp)
   rw [if_pos c17] at H
   have c17b0 : decide (0 ≤ x15_1) = true := decide_eq_true c17
   clear c17
   by_cases c18 : x15_1 < (t559.length : Int)
   rotate_left
   ·rw [if_neg c18] at H
    exact absurd H (by simp)
   rw [if_pos c18] at H
   have c18b0 : decide (x15_1 < (t559.length : Int)) = true := decide_eq_true c18
   clear c18
   by_cases c19 : x15_1 < (t562.length : Int)
   rotate_left
   ·rw [if_neg c19] at H
    exact absurd H (by simp)
   rw [if_pos c19] at H
   have c19b0 : decide (x15_1 < (t562.length : Int)) = true := decide_eq_true c19
   clear c19
   by_cases c20 : x5_1.length < 8796093022208
   rotate_left
   ·rw [if_neg c20] at H
    exact absurd H (by simp)
   rw [if_pos c20] at H
   have LMc20 := Aside0.mk c20
   clear c20
   obtain ⟨y568, hy568⟩ : ∃ y_ : List (S71), y_ = (x5_1 ++ [(⟨rd t559 x15_1, rd t562 x15_1⟩ : S71)]) := ⟨_, rfl⟩
   replace H : (impl_OpsOf.l0 k1 y568 (t556.length : Int) (wrap64 (x15_1 + 1)) t556 t559 t562) = some (r1, r2) := by first | (rw [hy568]; with_reducible exact H) | (have H2_ := (Option.bind_some _ _).symm.trans H; rw [hy568]; with_reducible exact H2_) | (have H2_ := (Option.bind_some _ _).symm.trans H; with_reducible exact H2_) | with_reducible exact H | (rw [hy568]; exact H) | exact H
   have Ny568 := Aside0.mk hy568
   clear hy568
   have H' := Aside0.mk H
   clear H
   try go_wp2
   have n0_ := Aside0.mk (Kd.R_drew HO_5.out)
   have n1_ := Aside0.mk (Kd.R_drew HO_566000.out)
   have n2_ := Aside0.mk (Kd.R_drew HO_566001.out)
   have n3_ := Aside0.mk (Kd.R_drew HO_566002.out)
   have n4_ := Aside0.mk (blk_drew BK554.out)
   have n5_ := Aside0.mk (blk_drew BK565.out)
   have n6_ := Aside0.mk (below_drew1 HB.out)
   replace HO_5 := n0_
   replace HO_566000 := n1_
   replace HO_566001 := n2_
   replace HO_566002 := n3_
   replace BK554 := n4_
   replace BK565 := n5_
   replace HB := n6_
   clear n0_ n1_ n2_ n3_ n4_ n5_ n6_
   have p566 : 0 ≤ (x15_1 : Int) := of_decide_eq_true (by first | (with_reducible assumption) | assumption)
   have q566 : x15_1 < (t559.length : Int) := of_decide_eq_true (by first | (with_reducible assumption) | assumption)
   obtain ⟨ad566, e566, hx566_0⟩ := Kd.at_int (Kd.R_reads' HO_566001.out).2.2 x15_1 p566 q566
   cases e566
   replace p566 := eq_true p566
   replace q566 := eq_true q566
   have p567 : 0 ≤ (x15_1 : Int) := of_decide_eq_true (by first | (with_reducible assumption) | assumption)
   have q567 : x15_1 < (t562.length : Int) := of_decide_eq_true (by first | (with_reducible assumption) | assumption)
   obtain ⟨ad567, e567, hx567_0⟩ := Kd.at_int (Kd.R_reads' HO_566002.out).2.2 x15_1 p567 q567
   cases e567
   replace p567 := eq_true p567
   replace q567 := eq_true q567
   refine start_ (n := 15) (S := fun w' => w'.cell? ⟨gb565, 0, none⟩ = some (.slice Ao11 t556.length co11) ∧ w'.cell? ⟨gb565, 1, none⟩ = some (.slice (some ad566) t559.length co14) ∧ w'.cell? ⟨gb565, 2, none⟩ = some (.slice (some ad567) t562.length co15) ∧ w'.cell? (ad566.add (x15_1).toNat) = some (.int .i64 (rd t559 x15_1)) ∧ w'.cell? (ad567.add (x15_1).toNat) = some (.int .i64 (rd t562 x15_1))) (ds := [12]) q34_0 (by kernel_rfl) rfl rfl ⟨(blk_cell BK565.out 0).trans rfl, (blk_cell BK565.out 1).trans rfl, (blk_cell BK565.out 2).trans rfl, hx566_0, hx567_0⟩ (fun hHeld => ?_); refine with_tabW impl_OpsOf.tab8 impl_OpsOf.bits8 (fun HT_ HW_ => ?_)
   generalize wr.drew = w21 at HO_5 HO_566000 HO_566001 HO_566002 BK554 BK565 HB hx566_0 hx567_0 hHeld ⊢
   refine pup_ (i := 0) (N := some 18) HT_ rfl rfl (by kernel_rfl) (fun _ _ _ h => h) (Or.inl ⟨by rfl, by intro w'; go_simp; with_reducible rfl⟩) (by simp only [aq_]; rfl) ?_
   refine pup_ (i := 1) (N := some 19) HT_ rfl rfl (by kernel_rfl) (fun _ _ _ h => h) (Or.inl ⟨by rfl, by intro w'; go_simp; with_reducible rfl⟩) (by simp only [aq_]; rfl) ?_
   refine pup_ (i := 3) (N := some 21) HT_ rfl rfl (by kernel_rfl) (fun _ _ _ h => h) (Or.inl ⟨by rfl, by intro w'; go_simp; with_reducible rfl⟩) (by simp only [aq_]; rfl) ?_
   refine pup_ (i := 6) (N := some 24) HT_ rfl rfl (by kernel_rfl) (fun _ _ _ h => h) (Or.inl ⟨by rfl, by intro w'; go_simp; with_reducible rfl⟩) (by simp only [aq_]; rfl) ?_
   refine pup_ (i := 8) (N := some 26) HT_ rfl rfl (by kernel_rfl) (fun _ _ _ h => h) (Or.inl ⟨by rfl, by intro w'; go_simp; with_reducible rfl⟩) (by simp only [aq_]; rfl) ?_
   refine take_ (i := 2) (N := some 20) (v := ?_) (a' := ?_) q34_6 rfl rfl (take_ofW HT_.out HW_.out (by kernel_rfl)) (fun _ _ _ h => h) (Or.inl ⟨by rfl, ?_⟩) hHeld ?_ ?_
   rotate_left
   ·rintro w' ⟨s0, s1, s2, s3, s4⟩
    go_simp
    with_reducible rfl
   rotate_left
   ·simp only [aq_]
    rfl
   refine pup_ (i := 4) (N := some 22) HT_ rfl rfl (by kernel_rfl) (fun _ _ _ h => h) (Or.inl ⟨by rfl, by intro w'; go_simp; with_reducible rfl⟩) (by simp only [aq_]; rfl) ?_
   refine take_ (i := 5) (N := some 23) (v := ?_) (a' := ?_) q34_8 rfl rfl (take_ofW HT_.out HW_.out (by kernel_rfl)) (fun _ _ _ h => h) (Or.inl ⟨by rfl, ?_⟩) hHeld ?_ ?_
   rotate_left
   ·rintro w' ⟨s0, s1, s2, s3, s4⟩
    go_simp
    with_reducible rfl
   rotate_left
   ·simp only [aq_]
    rfl
   refine take_ (i := 7) (N := some 25) (v := ?_) (a' := ?_) q34_9 rfl rfl (take_ofW HT_.out HW_.out (by kernel_rfl)) (fun _ _ _ h => h) (Or.inl ⟨by rfl, ?_⟩) hHeld ?_ ?_
   rotate_left
   ·rintro w' ⟨s0, s1, s2, s3, s4⟩
    go_simp
    with_reducible rfl
   rotate_left
   ·simp only [aq_]
    rfl
   refine pup_ (i := 9) (N := some 27) HT_ rfl rfl (by kernel_rfl) (fun _ _ _ h => h) (Or.inl ⟨by rfl, by intro w'; go_simp; with_reducible rfl⟩) (by simp only [aq_]; rfl) ?_
   refine take_ (i := 10) (N := some 28) (v := ?_) (a' := ?_) q34_11 rfl rfl (take_ofW HT_.out HW_.out (by kernel_rfl)) (fun _ _ _ h => h) (Or.inl ⟨by rfl, ?_⟩) hHeld ?_ ?_
   rotate_left
   ·rintro w' ⟨s0, s1, s2, s3, s4⟩
    go_simp
    with_reducible rfl
   rotate_left
   ·simp only [aq_]
    rfl
   refine pup_ (i := 11) (N := some 29) HT_ rfl rfl (by kernel_rfl) (fun _ _ _ h => h) (Or.inl ⟨by rfl, by intro w'; go_simp; with_reducible rfl⟩) (by simp only [aq_]; rfl) ?_
   refine last_ (i := 12) (N := some 30) q34_13 rfl rfl (one_of HT_.out (by kernel_rfl)) (by decide) (fun K hK => ?_)
   refine value_ (w1 := ?_) (v := ?_) (by rfl) rfl ?_ ?_
   rotate_left 2
   ·go_simp
    constructor
    ·rfl
    ·rfl
   refine hK.out _ _ ?_
   clear hK K
   refine norm_ (a' := ?_) ?_ ?_
   rotate_left
   ·show Act.put _ (some 30) _ = _
    simp only [aq_]
    rfl
   refine one_ (i := 13) (N := some 31) q34_14 rfl rfl (one_of HT_.out (by kernel_rfl)) (by decide) (fun K hK => ?_)
   refine Kd.R_append_step k71 (w0 := w) w.heap.size (by rfl) (.tmp 18) (.tmp 30) 46 71 (.agg #[(.int .i64 0), (.int .i64 0)]) 16 rfl Try.underlying46 info71 rfl (by decide) (by omega) u5 x5_1 (⟨rd t559 x15_1, rd t562 x15_1⟩ : S71) [.int .i64 (rd t559 x15_1), .int .i64 (rd t562 x15_1)] (fun _ => True) (fun _ => False) rfl rfl ?aP (fun _ hk => hk.elim) ?aF ?aO ?aB ?aS ?aL ?_
   (case aP => exact k71_mkM _ _ _ (⟨rd t559 x15_1, rd t562 x15_1⟩ : S71))
   (case aB => exact (by repeat (first | (with_reducible first | exact bw HB.out | refine bset ?_ | apply bA | apply bN | apply bD) | exact HB.out)))
   (case aF => exact (fun _ _ => trivial))
   (case aO => exact (bR HO_5.out))
   (case aS => exact (below_size (by repeat (first | (with_reducible first | exact bw HB.out | refine bset ?_ | apply bA | apply bN | apply bD) | exact HB.out))))
   (case aL => have := LMc20.out; omega)
   intro v569 w22 ho hb hg hat
   (first | have HS3_ := cell_grown hg (hHeld.2.2.2.1) (by first | (rw [add_block]; (first | exact ((Kd.R_apart' HO_566001.out (Kd.R_typed HO_5.out) (by decide)).1 _ rfl).2 | exact ((Kd.R_apart' (bR HO_566001.out) (Kd.R_typed (bR HO_5.out)) (by decide)).1 _ rfl).2)) | (show some (Addr.add _ _).block ≠ _; rw [add_block]; (first | exact ((Kd.R_apart' HO_566001.out (Kd.R_typed HO_5.out) (by decide)).1 _ rfl).2 | exact ((Kd.R_apart' (bR HO_566001.out) (Kd.R_typed (bR HO_5.out)) (by decide)).1 _ rfl).2)) | (show (Addr.add _ _).block < _; rw [add_block]; (first | exact ((Kd.R_apart' HO_566001.out (Kd.R_typed HO_5.out) (by decide)).1 _ rfl).2 | exact ((Kd.R_apart' (bR HO_566001.out) (Kd.R_typed (bR HO_5.out)) (by decide)).1 _ rfl).2)) | (first | exact ((Kd.R_apart' HO_566001.out (Kd.R_typed HO_5.out) (by decide)).1 _ rfl).2 | exact ((Kd.R_apart' (bR HO_566001.out) (Kd.R_typed (bR HO_5.out)) (by decide)).1 _ rfl).2)) | have HS3_ := cell_grown hg (cell_unalloc (hHeld.2.2.2.1) (by first | (rw [add_block]; exact (Kd.R_lt (bR HO_566001.out) _ rfl)) | (show some (Addr.add _ _).block ≠ _; rw [add_block]; exact (Kd.R_lt (bR HO_566001.out) _ rfl)) | (show (Addr.add _ _).block < _; rw [add_block]; exact (Kd.R_lt (bR HO_566001.out) _ rfl)) | exact (Kd.R_lt (bR HO_566001.out) _ rfl))) (by first | (rw [add_block]; (first | exact ((Kd.R_apart' HO_566001.out (Kd.R_typed HO_5.out) (by decide)).1 _ rfl).2 | exact ((Kd.R_apart' (bR HO_566001.out) (Kd.R_typed (bR HO_5.out)) (by decide)).1 _ rfl).2)) | (show some (Addr.add _ _).block ≠ _; rw [add_block]; (first | exact ((Kd.R_apart' HO_566001.out (Kd.R_typed HO_5.out) (by decide)).1 _ rfl).2 | exact ((Kd.R_apart' (bR HO_566001.out) (Kd.R_typed (bR HO_5.out)) (by decide)).1 _ rfl).2)) | (show (Addr.add _ _).block < _; rw [add_block]; (first | exact ((Kd.R_apart' HO_566001.out (Kd.R_typed HO_5.out) (by decide)).1 _ rfl).2 | exact ((Kd.R_apart' (bR HO_566001.out) (Kd.R_typed (bR HO_5.out)) (by decide)).1 _ rfl).2)) | (first | exact ((Kd.R_apart' HO_566001.out (Kd.R_typed HO_5.out) (by decide)).1 _ rfl).2 | exact ((Kd.R_apart' (bR HO_566001.out) (Kd.R_typed (bR HO_5.out)) (by decide)).1 _ rfl).2)))
   (first | have HS4_ := cell_grown hg (hHeld.2.2.2.2) (by first | (rw [add_block]; (first | exact ((Kd.R_apart' HO_566002.out (Kd.R_typed HO_5.out) (by decide)).1 _ rfl).2 | exact ((Kd.R_apart' (bR HO_566002.out) (Kd.R_typed (bR HO_5.out)) (by decide)).1 _ rfl).2)) | (show some (Addr.add _ _).block ≠ _; rw [add_block]; (first | exact ((Kd.R_apart' HO_566002.out (Kd.R_typed HO_5.out) (by decide)).1 _ rfl).2 | exact ((Kd.R_apart' (bR HO_566002.out) (Kd.R_typed (bR HO_5.out)) (by decide)).1 _ rfl).2)) | (show (Addr.add _ _).block < _; rw [add_block]; (first | exact ((Kd.R_apart' HO_566002.out (Kd.R_typed HO_5.out) (by decide)).1 _ rfl).2 | exact ((Kd.R_apart' (bR HO_566002.out) (Kd.R_typed (bR HO_5.out)) (by decide)).1 _ rfl).2)) | (first | exact ((Kd.R_apart' HO_566002.out (Kd.R_typed HO_5.out) (by decide)).1 _ rfl).2 | exact ((Kd.R_apart' (bR HO_566002.out) (Kd.R_typed (bR HO_5.out)) (by decide)).1 _ rfl).2)) | have HS4_ := cell_grown hg (cell_unalloc (hHeld.2.2.2.2) (by first | (rw [add_block]; exact (Kd.R_lt (bR HO_566002.out) _ rfl)) | (show some (Addr.add _ _).block ≠ _; rw [add_block]; exact (Kd.R_lt (bR HO_566002.out) _ rfl)) | (show (Addr.add _ _).block < _; rw [add_block]; exact (Kd.R_lt (bR HO_566002.out) _ rfl)) | exact (Kd.R_lt (bR HO_566002.out) _ rfl))) (by first | (rw [add_block]; (first | exact ((Kd.R_apart' HO_566002.out (Kd.R_typed HO_5.out) (by decide)).1 _ rfl).2 | exact ((Kd.R_apart' (bR HO_566002.out) (Kd.R_typed (bR HO_5.out)) (by decide)).1 _ rfl).2)) | (show some (Addr.add _ _).block ≠ _; rw [add_block]; (first | exact ((Kd.R_apart' HO_566002.out (Kd.R_typed HO_5.out) (by decide)).1 _ rfl).2 | exact ((Kd.R_apart' (bR HO_566002.out) (Kd.R_typed (bR HO_5.out)) (by decide)).1 _ rfl).2)) | (show (Addr.add _ _).block < _; rw [add_block]; (first | exact ((Kd.R_apart' HO_566002.out (Kd.R_typed HO_5.out) (by decide)).1 _ rfl).2 | exact ((Kd.R_apart' (bR HO_566002.out) (Kd.R_typed (bR HO_5.out)) (by decide)).1 _ rfl).2)) | (first | exact ((Kd.R_apart' HO_566002.out (Kd.R_typed HO_5.out) (by decide)).1 _ rfl).2 | exact ((Kd.R_apart' (bR HO_566002.out) (Kd.R_typed (bR HO_5.out)) (by decide)).1 _ rfl).2)))
   rw [← Ny568.out] at ho
   have n0_ := Aside0.mk (Kd.R_over' (bR HO_566000.out) (Kd.R_typed (bR HO_5.out)) (by decide) hg)
   have n1_ := Aside0.mk (Kd.R_over' (bR HO_566001.out) (Kd.R_typed (bR HO_5.out)) (by decide) hg)
   have n2_ := Aside0.mk (Kd.R_over' (bR HO_566002.out) (Kd.R_typed (bR HO_5.out)) (by decide) hg)
   have n3_ := Aside0.mk (blk_grown (bs BK554.out) hg (Kd.R_ne HO_5.out BK554.out (by decide)))
   have n4_ := Aside0.mk (blk_grown (bs BK565.out) hg (Kd.R_ne HO_5.out BK565.out (by decide)))
   have n5_ := Aside0.mk (hb)
   have n6_ := Aside0.mk (ho)
   clear HO_5
   replace HO_566000 := n0_
   replace HO_566001 := n1_
   replace HO_566002 := n2_
   replace BK554 := n3_
   replace BK565 := n4_
   replace HB := n5_
   have HO570 := n6_
   clear n0_ n1_ n2_ n3_ n4_ n5_ n6_
   clear ho hb hg hat
   refine hK.out _ _ ⟨(blk_cell BK565.out 0).trans rfl, (blk_cell BK565.out 1).trans rfl, (blk_cell BK565.out 2).trans rfl, HS3_, HS4_⟩ (fun hHeld => ?_)
   clear hK K
   refine norm_ (a' := ?_) ?_ ?_
   rotate_left
   ·show Act.put _ (some 31) _ = _
    simp only [aq_]
    rfl
   refine pup_ (i := 14) (N := some 5) HT_ rfl rfl (by kernel_rfl) (fun _ _ _ h => h) (Or.inl ⟨by rfl, by intro w'; go_simp; with_reducible rfl⟩) (by simp only [aq_]; rfl) ?_
   refine done_ (done_of HT_.out (by kernel_rfl)) ?_
   try go_wp2
   go_roundg k1
   case measure => have := HK1.out; omega
   case rel => exact ⟨(y568), (wrap64 (x15_1 + 1)), (by first | rfl | (simp; done) | (simp [*]; done)), H', ⟨by have := HK1.out; omega⟩, ⟨bR HO570.out⟩, ⟨bR HO_566000.out⟩, ⟨bR HO_566001.out⟩, ⟨bR HO_566002.out⟩, ⟨bs BK554.out⟩, ⟨bs BK565.out⟩, ⟨by repeat (first | (with_reducible first | exact bw HB.out | refine bset ?_ | apply bA | apply bN | apply bD) | exact HB.out)⟩⟩

/-! ### laws_FnExactOpsOf: function 6 -/
def laws_FnExactOpsOf.f (k : Nat) (a0_0 : Int) (l0_1 : List (List (S165))) : Option (Bool) := ((laws_szJobShop.f k a0_0 l0_1 1048576).bind fun t1 => (if t1 < 0 then some true else ((laws_toJobShop.f k a0_0 l0_1).bind fun bt2 => ((spec_OpsOf.f k bt2.1 bt2.2).bind fun bt4 => ((laws_toJobShop.f k a0_0 l0_1).bind fun bt6 => ((impl_OpsOf.f k bt6.1 bt6.2).bind fun bt8 => ((laws_eqIntA2S.f k bt8.1 bt4.1).bind fun t10 => (if t10 = true then (if bt8.2 = bt4.2 then ((laws_toJobShop.f k a0_0 l0_1).bind fun bt11 => ((laws_eqJobShop.f k bt6.1 bt6.2 bt11.1 bt11.2).bind fun t13 => (if t13 = true then ((laws_markJobShop.f k bt6.2 1).bind fun bt14 => (if bt14.1 < 0 then none else ((laws_eqIntA2S.f k bt8.1 bt4.1).bind fun t16 => (if t16 = true then (if bt8.2 = bt4.2 then ((laws_markIntA2S.f k bt8.1 1).bind fun bt17 => ((laws_heldIntA2S.f k bt17.2 1).bind fun t19 => (if t19 < 0 then none else (if t19 = bt17.1 then ((laws_toJobShop.f k a0_0 l0_1).bind fun bt20 => ((impl_OpsOf.f k bt20.1 bt20.2).bind fun bt22 => ((laws_eqIntA2S.f k bt22.1 bt4.1).bind fun t24 => (if t24 = true then (if bt22.2 = bt4.2 then ((laws_heldIntA2S.f k bt17.2 1).bind fun t25 => (if t25 < 0 then none else (if t25 = bt17.1 then some true else none))) else none) else none)))) else none)))) else none) else none)))) else none))) else none) else none))))))))
theorem laws_FnExactOpsOf.mono : ∀ a0_0 l0_1 k, LeO (laws_FnExactOpsOf.f k a0_0 l0_1) (laws_FnExactOpsOf.f (k + 1) a0_0 l0_1) := by
 intro a0_0 l0_1 k
 unfold laws_FnExactOpsOf.f
 repeat' first
  | (with_reducible exact impl_OpsOf.mono _ _ _)
  | (with_reducible exact laws_eqIntA2S.mono _ _ _)
  | (with_reducible exact laws_eqJobShop.mono _ _ _ _ _)
  | (with_reducible exact laws_heldIntA2S.mono _ _ _)
  | (with_reducible exact laws_markIntA2S.mono _ _ _)
  | (with_reducible exact laws_markJobShop.mono _ _ _)
  | (with_reducible exact laws_szJobShop.mono _ _ _ _)
  | (with_reducible exact laws_toJobShop.mono _ _ _)
  | (with_reducible exact spec_OpsOf.mono _ _ _)
  | (with_reducible exact LeO.refl _)
  | (with_reducible exact LeO.none _)
  | (with_reducible refine LeO.ite ?_ ?_)
  | (with_reducible refine LeO.bind ?_ (fun _ => ?_))
theorem laws_FnExactOpsOf.bS {α : Type} {d : Kd α} {e base : Nat} {w' w : World} {ok : Nat → Prop} {v : Value} {xs : List α} (h : Kd.S d e w base ok v xs) [k : Bs w' w] : Kd.S d e w' base ok v xs := by
 obtain ⟨k⟩ := k
 exact Kd.S_below h k.out
theorem laws_FnExactOpsOf.sz {w' w : World} {m : Nat} (h : m ≤ w.heap.size) [k : Bs w' w] : m ≤ w'.heap.size := by
 obtain ⟨k⟩ := k
 exact Nat.le_trans h k.out.size
theorem laws_FnExactOpsOf.cS {α : Type} {d : Kd α} {e base : Nat} {ok : Nat → Prop} {w w' : World} {A : Option Addr} {n c : Nat} {xs : List α} (h : Kd.S d e w base ok (.slice A n c) xs) [k : Bs w' w] : d.C w' A xs.length xs := (Kd.S_reads' (laws_FnExactOpsOf.bS h)).2.2
theorem laws_FnExactOpsOf.cR {α : Type} {d : Kd α} {e base : Nat} {ok : Nat → Prop} {w w' : World} {A : Option Addr} {n c : Nat} {xs : List α} (h : d.R e w base ok (.slice A n c) xs) [k : Bs w' w] : d.C w' A xs.length xs := (Kd.R_reads' (bR h)).2.2
theorem laws_FnExactOpsOf.szS {w : World} {m : Nat} (p : Addr) (u : Value) (h : m ≤ w.heap.size) : m ≤ (w.setCell p u).heap.size := by simpa [World.setCell] using h
theorem laws_FnExactOpsOf.bQ {α : Type} {d : Kd α} {e base : Nat} {w' w : World} {ok : Nat → Prop} {v : Value} {xs : List α} (h : d.Q e w base ok v xs) [k : Bs w' w] : d.Q e w' base ok v xs := by
 obtain ⟨k⟩ := k
 exact Kd.Q_below h k.out
theorem laws_FnExactOpsOf.cQ {α : Type} {d : Kd α} {e base : Nat} {ok : Nat → Prop} {w w' : World} {A : Option Addr} {n c : Nat} {xs : List α} (h : d.Q e w base ok (.slice A n c) xs) [k : Bs w' w] : d.C w' A xs.length xs := (Kd.Q_reads' (laws_FnExactOpsOf.bQ h)).2.2
theorem laws_FnExactOpsOf.newR {α : Type} {d : Kd α} {e m base : Nat} {ok : Nat → Prop} {wc w' : World} {v : Value} {xs : List α} (h : d.R e w' wc.heap.size ok v xs) (hb : base ≤ wc.heap.size) (hm : m ≤ wc.heap.size) (hs : wc.heap.size ≤ w'.heap.size) : ∃ lo hi, (m ≤ lo ∧ lo ≤ hi) ∧ hi ≤ w'.heap.size ∧ d.R e w' base (fun k_ => lo ≤ k_ ∧ k_ < hi) v xs := ⟨wc.heap.size, w'.heap.size, ⟨hm, hs⟩, Nat.le_refl _, Kd.R_lower (Kd.R_mono (Kd.R_bound h) (fun _ hk => ⟨hk.2.1, hk.2.2.1⟩)) hb⟩
theorem laws_FnExactOpsOf.newS {α : Type} {d : Kd α} {e m base : Nat} {ok : Nat → Prop} {wc w' : World} {v : Value} {xs : List α} (h : Kd.S d e w' wc.heap.size ok v xs) (hb : base ≤ wc.heap.size) (hm : m ≤ wc.heap.size) (hs : wc.heap.size ≤ w'.heap.size) : ∃ lo hi, (m ≤ lo ∧ lo ≤ hi) ∧ hi ≤ w'.heap.size ∧ Kd.S d e w' base (fun k_ => lo ≤ k_ ∧ k_ < hi) v xs := ⟨wc.heap.size, w'.heap.size, ⟨hm, hs⟩, Nat.le_refl _, Kd.S_lower (Kd.S_mono (Kd.S_bound h) (fun _ hk => ⟨hk.2.1, hk.2.2.1⟩)) hb⟩
theorem laws_FnExactOpsOf.newQ {α : Type} {d : Kd α} {e m base : Nat} {ok : Nat → Prop} {wc w' : World} {v : Value} {xs : List α} (h : d.Q e w' wc.heap.size ok v xs) (hb : base ≤ wc.heap.size) (hm : m ≤ wc.heap.size) (hs : wc.heap.size ≤ w'.heap.size) : ∃ lo hi, (m ≤ lo ∧ lo ≤ hi) ∧ hi ≤ w'.heap.size ∧ d.Q e w' base (fun k_ => lo ≤ k_ ∧ k_ < hi) v xs := ⟨wc.heap.size, w'.heap.size, ⟨hm, hs⟩, Nat.le_refl _, Kd.Q_lower (Kd.Q_mono (Kd.Q_bound h) (fun _ hk => ⟨hk.2.1, hk.2.2.1⟩)) hb⟩
set_option maxHeartbeats 16000000 in
set_option maxRecDepth 100000 in
theorem laws_FnExactOpsOf.calls (k : Nat) (a0_0 : Int) (A0_1 : Option Addr) (c0_1 : Nat) (l0_1 : List (List (S165))) (r : Bool) (w : World) (hr0_1 : Kd.C (Kd.slice 165 k165) w A0_1 l0_1.length l0_1) (hc0_1 : l0_1.length ≤ c0_1) (h : laws_FnExactOpsOf.f k a0_0 l0_1 = some r) :
  Calls Try.prog 6 #[.agg #[.int .i64 a0_0, .slice A0_1 l0_1.length c0_1]] w fun e w' => e = .returned (.bool r) ∧ Below w.heap.size w w' := by
 have HR0_1 := Aside0.mk hr0_1
 clear hr0_1
 have HC0_1 := Aside0.mk hc0_1
 clear hc0_1
 have HB := Aside0.mk (Below.refl w.heap.size w)
 have HM := Aside0.mk (Nat.le_refl w.heap.size)
 have BD := Aside0.mk True.intro
 have hu44 := Try.underlying44
 have hu51 := Try.underlying51
 have H := h
 clear h
 unfold laws_FnExactOpsOf.f at H
 replace H := Option.bind_eq_some_iff.mp H
 obtain ⟨t1, A10, H⟩ := H
 have A1 := Aside0.mk A10
 clear A10
 have H' := Aside0.mk (show (if t1 < 0 then some true else ((laws_toJobShop.f k a0_0 l0_1).bind fun bt2 => ((spec_OpsOf.f k bt2.1 bt2.2).bind fun bt4 => ((laws_toJobShop.f k a0_0 l0_1).bind fun bt6 => ((impl_OpsOf.f k bt6.1 bt6.2).bind fun bt8 => ((laws_eqIntA2S.f k bt8.1 bt4.1).bind fun t10 => (if t10 = true then (if bt8.2 = bt4.2 then ((laws_toJobShop.f k a0_0 l0_1).bind fun bt11 => ((laws_eqJobShop.f k bt6.1 bt6.2 bt11.1 bt11.2).bind fun t13 => (if t13 = true then ((laws_markJobShop.f k bt6.2 1).bind fun bt14 => (if bt14.1 < 0 then none else ((laws_eqIntA2S.f k bt8.1 bt4.1).bind fun t16 => (if t16 = true then (if bt8.2 = bt4.2 then ((laws_markIntA2S.f k bt8.1 1).bind fun bt17 => ((laws_heldIntA2S.f k bt17.2 1).bind fun t19 => (if t19 < 0 then none else (if t19 = bt17.1 then ((laws_toJobShop.f k a0_0 l0_1).bind fun bt20 => ((impl_OpsOf.f k bt20.1 bt20.2).bind fun bt22 => ((laws_eqIntA2S.f k bt22.1 bt4.1).bind fun t24 => (if t24 = true then (if bt22.2 = bt4.2 then ((laws_heldIntA2S.f k bt17.2 1).bind fun t25 => (if t25 < 0 then none else (if t25 = bt17.1 then some true else none))) else none) else none)))) else none)))) else none) else none)))) else none))) else none) else none))))))) = some r from H)
 clear H
 have H := H'.out
 clear H'
 by_cases c2 : t1 < 0
 ·rw [if_pos c2] at H
  have c2b0 : decide (t1 < 0) = true := decide_eq_true c2
  clear c2
  obtain rfl := Option.some.inj H
  go_enter Try.func6, Try.ntmps6
  go_wp2_with (first | ((with_reducible refine gate_dst (N := 1) rfl ?_); refine box_event ?hg (N := 1) ?hd (cs := #[.int .i64 a0_0, .slice A0_1 l0_1.length c0_1]) (t := 44) ?hr ?_; (case hd => rfl); (case hg => rfl); (case hr => first | (go_simp; done) | (go_simp; rfl)); intro gb0 hg w1 hbox hb; have hbb := Aside0.mk hb; clear hb; have BK0 := Aside0.mk hbox; have n0_ := Aside0.mk (And.intro (And.intro (show _ ≤ gb0 from by rw [hg]; exact laws_FnExactOpsOf.sz HM.out) (Nat.le_succ gb0)) BD.out); replace BD := n0_; clear n0_; clear HM; have HM := Aside0.mk (show gb0 + 1 ≤ _ from blk_lt hbox); have n0_ := Aside0.mk (below_step (bw HB.out) hbb.out); replace HB := n0_; clear n0_ hbb hbox hg; obtain ⟨hcz1_0_0, hcz1_0_1, hfz1_0_0, hfz1_0_1⟩ := bz2 BK0.out) | ((with_reducible refine gate_callee (f := 31) rfl ?_); refine goesL_ (some 16) rfl rfl Try.func31 (by kernel_rfl) rfl #[.agg #[.int .i64 a0_0, .slice A0_1 l0_1.length c0_1], .int .i64 1048576] rfl (by (try simp only [mA_]); first | done | rfl | (simp only [List.length_drop, List.length_take]; rfl)) ?_; (with_reducible refine (laws_szJobShop.calls k a0_0 A0_1 c0_1 l0_1 1048576 t1 _ ?side1 ?side2 A1.out).mono ?_); (case side1 => exact bC HR0_1.out HB.out); (case side2 => exact HC0_1.out); rintro e w2 ⟨rfl, hb⟩; refine ⟨_, rfl, ?_⟩; have hbb := Aside0.mk hb; clear hb; have n0 := Aside0.mk (blk_below (bs BK0.out) hbb.out); replace BK0 := n0; clear n0; obtain ⟨hcz2_0_0, hcz2_0_1, hfz2_0_0, hfz2_0_1⟩ := bz2 BK0.out; replace HM := Aside0.mk (Nat.le_trans (laws_FnExactOpsOf.sz HM.out) hbb.out.size); have n0_ := Aside0.mk (below_step (bw HB.out) hbb.out); replace HB := n0_; clear n0_ hbb))
  go_ret
  exact ⟨by first | rfl | (simp [*]; done), bw HB.out⟩
 rw [if_neg c2] at H
 have c2b0 : decide (t1 < 0) = false := decide_eq_false c2
 clear c2
 replace H := Option.bind_eq_some_iff.mp H
 obtain ⟨⟨t2, t3⟩, A30, H⟩ := H
 have A3 := Aside0.mk A30
 clear A30
 have H' := Aside0.mk (show ((spec_OpsOf.f k t2 t3).bind fun bt4 => ((laws_toJobShop.f k a0_0 l0_1).bind fun bt6 => ((impl_OpsOf.f k bt6.1 bt6.2).bind fun bt8 => ((laws_eqIntA2S.f k bt8.1 bt4.1).bind fun t10 => (if t10 = true then (if bt8.2 = bt4.2 then ((laws_toJobShop.f k a0_0 l0_1).bind fun bt11 => ((laws_eqJobShop.f k bt6.1 bt6.2 bt11.1 bt11.2).bind fun t13 => (if t13 = true then ((laws_markJobShop.f k bt6.2 1).bind fun bt14 => (if bt14.1 < 0 then none else ((laws_eqIntA2S.f k bt8.1 bt4.1).bind fun t16 => (if t16 = true then (if bt8.2 = bt4.2 then ((laws_markIntA2S.f k bt8.1 1).bind fun bt17 => ((laws_heldIntA2S.f k bt17.2 1).bind fun t19 => (if t19 < 0 then none else (if t19 = bt17.1 then ((laws_toJobShop.f k a0_0 l0_1).bind fun bt20 => ((impl_OpsOf.f k bt20.1 bt20.2).bind fun bt22 => ((laws_eqIntA2S.f k bt22.1 bt4.1).bind fun t24 => (if t24 = true then (if bt22.2 = bt4.2 then ((laws_heldIntA2S.f k bt17.2 1).bind fun t25 => (if t25 < 0 then none else (if t25 = bt17.1 then some true else none))) else none) else none)))) else none)))) else none) else none)))) else none))) else none) else none))))) = some r from H)
 clear H
 have H := H'.out
 clear H'
 replace H := Option.bind_eq_some_iff.mp H
 obtain ⟨⟨t4, t5⟩, A40, H⟩ := H
 have A4 := Aside0.mk A40
 clear A40
 have H' := Aside0.mk (show ((laws_toJobShop.f k a0_0 l0_1).bind fun bt6 => ((impl_OpsOf.f k bt6.1 bt6.2).bind fun bt8 => ((laws_eqIntA2S.f k bt8.1 t4).bind fun t10 => (if t10 = true then (if bt8.2 = t5 then ((laws_toJobShop.f k a0_0 l0_1).bind fun bt11 => ((laws_eqJobShop.f k bt6.1 bt6.2 bt11.1 bt11.2).bind fun t13 => (if t13 = true then ((laws_markJobShop.f k bt6.2 1).bind fun bt14 => (if bt14.1 < 0 then none else ((laws_eqIntA2S.f k bt8.1 t4).bind fun t16 => (if t16 = true then (if bt8.2 = t5 then ((laws_markIntA2S.f k bt8.1 1).bind fun bt17 => ((laws_heldIntA2S.f k bt17.2 1).bind fun t19 => (if t19 < 0 then none else (if t19 = bt17.1 then ((laws_toJobShop.f k a0_0 l0_1).bind fun bt20 => ((impl_OpsOf.f k bt20.1 bt20.2).bind fun bt22 => ((laws_eqIntA2S.f k bt22.1 t4).bind fun t24 => (if t24 = true then (if bt22.2 = t5 then ((laws_heldIntA2S.f k bt17.2 1).bind fun t25 => (if t25 < 0 then none else (if t25 = bt17.1 then some true else none))) else none) else none)))) else none)))) else none) else none)))) else none))) else none) else none)))) = some r from H)
 clear H
 have H := H'.out
 clear H'
 replace H := Option.bind_eq_some_iff.mp H
 obtain ⟨⟨t6, t7⟩, A50, H⟩ := H
 have A5 := Aside0.mk A50
 clear A50
 have H' := Aside0.mk (show ((impl_OpsOf.f k t6 t7).bind fun bt8 => ((laws_eqIntA2S.f k bt8.1 t4).bind fun t10 => (if t10 = true then (if bt8.2 = t5 then ((laws_toJobShop.f k a0_0 l0_1).bind fun bt11 => ((laws_eqJobShop.f k t6 t7 bt11.1 bt11.2).bind fun t13 => (if t13 = true then ((laws_markJobShop.f k t7 1).bind fun bt14 => (if bt14.1 < 0 then none else ((laws_eqIntA2S.f k bt8.1 t4).bind fun t16 => (if t16 = true then (if bt8.2 = t5 then ((laws_markIntA2S.f k bt8.1 1).bind fun bt17 => ((laws_heldIntA2S.f k bt17.2 1).bind fun t19 => (if t19 < 0 then none else (if t19 = bt17.1 then ((laws_toJobShop.f k a0_0 l0_1).bind fun bt20 => ((impl_OpsOf.f k bt20.1 bt20.2).bind fun bt22 => ((laws_eqIntA2S.f k bt22.1 t4).bind fun t24 => (if t24 = true then (if bt22.2 = t5 then ((laws_heldIntA2S.f k bt17.2 1).bind fun t25 => (if t25 < 0 then none else (if t25 = bt17.1 then some true else none))) else none) else none)))) else none)))) else none) else none)))) else none))) else none) else none))) = some r from H)
 clear H
 have H := H'.out
 clear H'
 replace H := Option.bind_eq_some_iff.mp H
 obtain ⟨⟨t8, t9⟩, A60, H⟩ := H
 have A6 := Aside0.mk A60
 clear A60
 have H' := Aside0.mk (show ((laws_eqIntA2S.f k t8 t4).bind fun t10 => (if t10 = true then (if t9 = t5 then ((laws_toJobShop.f k a0_0 l0_1).bind fun bt11 => ((laws_eqJobShop.f k t6 t7 bt11.1 bt11.2).bind fun t13 => (if t13 = true then ((laws_markJobShop.f k t7 1).bind fun bt14 => (if bt14.1 < 0 then none else ((laws_eqIntA2S.f k t8 t4).bind fun t16 => (if t16 = true then (if t9 = t5 then ((laws_markIntA2S.f k t8 1).bind fun bt17 => ((laws_heldIntA2S.f k bt17.2 1).bind fun t19 => (if t19 < 0 then none else (if t19 = bt17.1 then ((laws_toJobShop.f k a0_0 l0_1).bind fun bt20 => ((impl_OpsOf.f k bt20.1 bt20.2).bind fun bt22 => ((laws_eqIntA2S.f k bt22.1 t4).bind fun t24 => (if t24 = true then (if bt22.2 = t5 then ((laws_heldIntA2S.f k bt17.2 1).bind fun t25 => (if t25 < 0 then none else (if t25 = bt17.1 then some true else none))) else none) else none)))) else none)))) else none) else none)))) else none))) else none) else none)) = some r from H)
 clear H
 have H := H'.out
 clear H'
 replace H := Option.bind_eq_some_iff.mp H
 obtain ⟨t10, A70, H⟩ := H
 have A7 := Aside0.mk A70
 clear A70
 have H' := Aside0.mk (show (if t10 = true then (if t9 = t5 then ((laws_toJobShop.f k a0_0 l0_1).bind fun bt11 => ((laws_eqJobShop.f k t6 t7 bt11.1 bt11.2).bind fun t13 => (if t13 = true then ((laws_markJobShop.f k t7 1).bind fun bt14 => (if bt14.1 < 0 then none else ((laws_eqIntA2S.f k t8 t4).bind fun t16 => (if t16 = true then (if t9 = t5 then ((laws_markIntA2S.f k t8 1).bind fun bt17 => ((laws_heldIntA2S.f k bt17.2 1).bind fun t19 => (if t19 < 0 then none else (if t19 = bt17.1 then ((laws_toJobShop.f k a0_0 l0_1).bind fun bt20 => ((impl_OpsOf.f k bt20.1 bt20.2).bind fun bt22 => ((laws_eqIntA2S.f k bt22.1 t4).bind fun t24 => (if t24 = true then (if bt22.2 = t5 then ((laws_heldIntA2S.f k bt17.2 1).bind fun t25 => (if t25 < 0 then none else (if t25 = bt17.1 then some true else none))) else none) else none)))) else none)))) else none) else none)))) else none))) else none) else none) = some r from H)
 clear H
 have H := H'.out
 clear H'
 by_cases c8 : t10 = true
 case neg =>
  rw [if_neg c8] at H
  exact absurd H (by simp)
 rw [if_pos c8] at H
 subst c8
 by_cases c9 : t9 = t5
 case neg =>
  rw [if_neg c9] at H
  exact absurd H (by simp)
 rw [if_pos c9] at H
 have c9b0 : (t9 == t5) = true := beq_iff_eq.mpr c9
 have c9b1 : (t9 != t5) = false := bne_eq_false_iff_eq.mpr c9
 clear c9
 replace H := Option.bind_eq_some_iff.mp H
 obtain ⟨⟨t11, t12⟩, A100, H⟩ := H
 have A10 := Aside0.mk A100
 clear A100
 have H' := Aside0.mk (show ((laws_eqJobShop.f k t6 t7 t11 t12).bind fun t13 => (if t13 = true then ((laws_markJobShop.f k t7 1).bind fun bt14 => (if bt14.1 < 0 then none else ((laws_eqIntA2S.f k t8 t4).bind fun t16 => (if t16 = true then (if t9 = t5 then ((laws_markIntA2S.f k t8 1).bind fun bt17 => ((laws_heldIntA2S.f k bt17.2 1).bind fun t19 => (if t19 < 0 then none else (if t19 = bt17.1 then ((laws_toJobShop.f k a0_0 l0_1).bind fun bt20 => ((impl_OpsOf.f k bt20.1 bt20.2).bind fun bt22 => ((laws_eqIntA2S.f k bt22.1 t4).bind fun t24 => (if t24 = true then (if bt22.2 = t5 then ((laws_heldIntA2S.f k bt17.2 1).bind fun t25 => (if t25 < 0 then none else (if t25 = bt17.1 then some true else none))) else none) else none)))) else none)))) else none) else none)))) else none)) = some r from H)
 clear H
 have H := H'.out
 clear H'
 replace H := Option.bind_eq_some_iff.mp H
 obtain ⟨t13, A110, H⟩ := H
 have A11 := Aside0.mk A110
 clear A110
 have H' := Aside0.mk (show (if t13 = true then ((laws_markJobShop.f k t7 1).bind fun bt14 => (if bt14.1 < 0 then none else ((laws_eqIntA2S.f k t8 t4).bind fun t16 => (if t16 = true then (if t9 = t5 then ((laws_markIntA2S.f k t8 1).bind fun bt17 => ((laws_heldIntA2S.f k bt17.2 1).bind fun t19 => (if t19 < 0 then none else (if t19 = bt17.1 then ((laws_toJobShop.f k a0_0 l0_1).bind fun bt20 => ((impl_OpsOf.f k bt20.1 bt20.2).bind fun bt22 => ((laws_eqIntA2S.f k bt22.1 t4).bind fun t24 => (if t24 = true then (if bt22.2 = t5 then ((laws_heldIntA2S.f k bt17.2 1).bind fun t25 => (if t25 < 0 then none else (if t25 = bt17.1 then some true else none))) else none) else none)))) else none)))) else none) else none)))) else none) = some r from H)
 clear H
 have H := H'.out
 clear H'
 by_cases c12 : t13 = true
 case neg =>
  rw [if_neg c12] at H
  exact absurd H (by simp)
 rw [if_pos c12] at H
 subst c12
 replace H := Option.bind_eq_some_iff.mp H
 obtain ⟨⟨t14, t15⟩, A130, H⟩ := H
 have A13 := Aside0.mk A130
 clear A130
 have H' := Aside0.mk (show (if t14 < 0 then none else ((laws_eqIntA2S.f k t8 t4).bind fun t16 => (if t16 = true then (if t9 = t5 then ((laws_markIntA2S.f k t8 1).bind fun bt17 => ((laws_heldIntA2S.f k bt17.2 1).bind fun t19 => (if t19 < 0 then none else (if t19 = bt17.1 then ((laws_toJobShop.f k a0_0 l0_1).bind fun bt20 => ((impl_OpsOf.f k bt20.1 bt20.2).bind fun bt22 => ((laws_eqIntA2S.f k bt22.1 t4).bind fun t24 => (if t24 = true then (if bt22.2 = t5 then ((laws_heldIntA2S.f k bt17.2 1).bind fun t25 => (if t25 < 0 then none else (if t25 = bt17.1 then some true else none))) else none) else none)))) else none)))) else none) else none))) = some r from H)
 clear H
 have H := H'.out
 clear H'
 by_cases c14 : t14 < 0
 ·rw [if_pos c14] at H
  exact absurd H (by simp)
 rw [if_neg c14] at H
 have c14b0 : decide (t14 < 0) = false := decide_eq_false c14
 clear c14
 replace H := Option.bind_eq_some_iff.mp H
 obtain ⟨t16, A150, H⟩ := H
 have A15 := Aside0.mk A150
 clear A150
 have H' := Aside0.mk (show (if t16 = true then (if t9 = t5 then ((laws_markIntA2S.f k t8 1).bind fun bt17 => ((laws_heldIntA2S.f k bt17.2 1).bind fun t19 => (if t19 < 0 then none else (if t19 = bt17.1 then ((laws_toJobShop.f k a0_0 l0_1).bind fun bt20 => ((impl_OpsOf.f k bt20.1 bt20.2).bind fun bt22 => ((laws_eqIntA2S.f k bt22.1 t4).bind fun t24 => (if t24 = true then (if bt22.2 = t5 then ((laws_heldIntA2S.f k bt17.2 1).bind fun t25 => (if t25 < 0 then none else (if t25 = bt17.1 then some true else none))) else none) else none)))) else none)))) else none) else none) = some r from H)
 clear H
 have H := H'.out
 clear H'
 by_cases c16 : t16 = true
 case neg =>
  rw [if_neg c16] at H
  exact absurd H (by simp)
 rw [if_pos c16] at H
 subst c16
 by_cases c17 : t9 = t5
 case neg =>
  rw [if_neg c17] at H
  exact absurd H (by simp)
 rw [if_pos c17] at H
 have c17b0 : (t9 == t5) = true := beq_iff_eq.mpr c17
 have c17b1 : (t9 != t5) = false := bne_eq_false_iff_eq.mpr c17
 clear c17
 replace H := Option.bind_eq_some_iff.mp H
 obtain ⟨⟨t17, t18⟩, A180, H⟩ := H
 have A18 := Aside0.mk A180
 clear A180
 have H' := Aside0.mk (show ((laws_heldIntA2S.f k t18 1).bind fun t19 => (if t19 < 0 then none else (if t19 = t17 then ((laws_toJobShop.f k a0_0 l0_1).bind fun bt20 => ((impl_OpsOf.f k bt20.1 bt20.2).bind fun bt22 => ((laws_eqIntA2S.f k bt22.1 t4).bind fun t24 => (if t24 = true then (if bt22.2 = t5 then ((laws_heldIntA2S.f k t18 1).bind fun t25 => (if t25 < 0 then none else (if t25 = t17 then some true else none))) else none) else none)))) else none))) = some r from H)
 clear H
 have H := H'.out
 clear H'
 replace H := Option.bind_eq_some_iff.mp H
 obtain ⟨t19, A190, H⟩ := H
 have A19 := Aside0.mk A190
 clear A190
 have H' := Aside0.mk (show (if t19 < 0 then none else (if t19 = t17 then ((laws_toJobShop.f k a0_0 l0_1).bind fun bt20 => ((impl_OpsOf.f k bt20.1 bt20.2).bind fun bt22 => ((laws_eqIntA2S.f k bt22.1 t4).bind fun t24 => (if t24 = true then (if bt22.2 = t5 then ((laws_heldIntA2S.f k t18 1).bind fun t25 => (if t25 < 0 then none else (if t25 = t17 then some true else none))) else none) else none)))) else none)) = some r from H)
 clear H
 have H := H'.out
 clear H'
 by_cases c20 : t19 < 0
 ·rw [if_pos c20] at H
  exact absurd H (by simp)
 rw [if_neg c20] at H
 have c20b0 : decide (t19 < 0) = false := decide_eq_false c20
 clear c20
 by_cases c21 : t19 = t17
 case neg =>
  rw [if_neg c21] at H
  exact absurd H (by simp)
 rw [if_pos c21] at H
 have c21b0 : (t19 == t17) = true := beq_iff_eq.mpr c21
 have c21b1 : (t19 != t17) = false := bne_eq_false_iff_eq.mpr c21
 clear c21
 replace H := Option.bind_eq_some_iff.mp H
 obtain ⟨⟨t20, t21⟩, A220, H⟩ := H
 have A22 := Aside0.mk A220
 clear A220
 have H' := Aside0.mk (show ((impl_OpsOf.f k t20 t21).bind fun bt22 => ((laws_eqIntA2S.f k bt22.1 t4).bind fun t24 => (if t24 = true then (if bt22.2 = t5 then ((laws_heldIntA2S.f k t18 1).bind fun t25 => (if t25 < 0 then none else (if t25 = t17 then some true else none))) else none) else none))) = some r from H)
 clear H
 have H := H'.out
 clear H'
 replace H := Option.bind_eq_some_iff.mp H
 obtain ⟨⟨t22, t23⟩, A230, H⟩ := H
 have A23 := Aside0.mk A230
 clear A230
 have H' := Aside0.mk (show ((laws_eqIntA2S.f k t22 t4).bind fun t24 => (if t24 = true then (if t23 = t5 then ((laws_heldIntA2S.f k t18 1).bind fun t25 => (if t25 < 0 then none else (if t25 = t17 then some true else none))) else none) else none)) = some r from H)
 clear H
 have H := H'.out
 clear H'
 replace H := Option.bind_eq_some_iff.mp H
 obtain ⟨t24, A240, H⟩ := H
 have A24 := Aside0.mk A240
 clear A240
 have H' := Aside0.mk (show (if t24 = true then (if t23 = t5 then ((laws_heldIntA2S.f k t18 1).bind fun t25 => (if t25 < 0 then none else (if t25 = t17 then some true else none))) else none) else none) = some r from H)
 clear H
 have H := H'.out
 clear H'
 by_cases c25 : t24 = true
 case neg =>
  rw [if_neg c25] at H
  exact absurd H (by simp)
 rw [if_pos c25] at H
 subst c25
 by_cases c26 : t23 = t5
 case neg =>
  rw [if_neg c26] at H
  exact absurd H (by simp)
 rw [if_pos c26] at H
 have c26b0 : (t23 == t5) = true := beq_iff_eq.mpr c26
 have c26b1 : (t23 != t5) = false := bne_eq_false_iff_eq.mpr c26
 clear c26
 replace H := Option.bind_eq_some_iff.mp H
 obtain ⟨t25, A270, H⟩ := H
 have A27 := Aside0.mk A270
 clear A270
 have H' := Aside0.mk (show (if t25 < 0 then none else (if t25 = t17 then some true else none)) = some r from H)
 clear H
 have H := H'.out
 clear H'
 by_cases c28 : t25 < 0
 ·rw [if_pos c28] at H
  exact absurd H (by simp)
 rw [if_neg c28] at H
 have c28b0 : decide (t25 < 0) = false := decide_eq_false c28
 clear c28
 by_cases c29 : t25 = t17
 case neg =>
  rw [if_neg c29] at H
  exact absurd H (by simp)
 rw [if_pos c29] at H
 have c29b0 : (t25 == t17) = true := beq_iff_eq.mpr c29
 have c29b1 : (t25 != t17) = false := bne_eq_false_iff_eq.mpr c29
 clear c29
 obtain rfl := Option.some.inj H
 clear H
 go_enter Try.func6, Try.ntmps6
 go_wp2_with (first | ((with_reducible refine gate_dst (N := 1) rfl ?_); refine box_event ?hg (N := 1) ?hd (cs := #[.int .i64 a0_0, .slice A0_1 l0_1.length c0_1]) (t := 44) ?hr ?_; (case hd => rfl); (case hg => rfl); (case hr => first | (go_simp; done) | (go_simp; rfl)); intro gb0 hg w1 hbox hb; have hbb := Aside0.mk hb; clear hb; have BK0 := Aside0.mk hbox; have n0_ := Aside0.mk (And.intro (And.intro (show _ ≤ gb0 from by rw [hg]; exact laws_FnExactOpsOf.sz HM.out) (Nat.le_succ gb0)) BD.out); replace BD := n0_; clear n0_; clear HM; have HM := Aside0.mk (show gb0 + 1 ≤ _ from blk_lt hbox); have n0_ := Aside0.mk (below_step (bw HB.out) hbb.out); replace HB := n0_; clear n0_ hbb hbox hg; obtain ⟨hcz1_0_0, hcz1_0_1, hfz1_0_0, hfz1_0_1⟩ := bz2 BK0.out) | ((with_reducible refine gate_callee (f := 31) rfl ?_); refine goesL_ (some 16) rfl rfl Try.func31 (by kernel_rfl) rfl #[.agg #[.int .i64 a0_0, .slice A0_1 l0_1.length c0_1], .int .i64 1048576] rfl (by (try simp only [mA_]); first | done | rfl | (simp only [List.length_drop, List.length_take]; rfl)) ?_; (with_reducible refine (laws_szJobShop.calls k a0_0 A0_1 c0_1 l0_1 1048576 t1 _ ?side1 ?side2 A1.out).mono ?_); (case side1 => exact bC HR0_1.out HB.out); (case side2 => exact HC0_1.out); rintro e w2 ⟨rfl, hb⟩; refine ⟨_, rfl, ?_⟩; have hbb := Aside0.mk hb; clear hb; have n0 := Aside0.mk (blk_below (bs BK0.out) hbb.out); replace BK0 := n0; clear n0; obtain ⟨hcz2_0_0, hcz2_0_1, hfz2_0_0, hfz2_0_1⟩ := bz2 BK0.out; replace HM := Aside0.mk (Nat.le_trans (laws_FnExactOpsOf.sz HM.out) hbb.out.size); have n0_ := Aside0.mk (below_step (bw HB.out) hbb.out); replace HB := n0_; clear n0_ hbb) | ((with_reducible refine gate_callee (f := 33) rfl ?_); refine goesL_ (some 21) rfl rfl Try.func33 (by kernel_rfl) rfl #[.agg #[.int .i64 a0_0, .slice A0_1 l0_1.length c0_1]] rfl (by (try simp only [mA_]); first | done | rfl | (simp only [List.length_drop, List.length_take]; rfl)) ?_; (with_reducible refine (laws_toJobShop.calls k a0_0 A0_1 c0_1 l0_1 t2 t3 _ ?side1 ?side2 A3.out).mono ?_); (case side1 => exact bC HR0_1.out HB.out); (case side2 => exact HC0_1.out); rintro e w3 ⟨v3_0, rfl, ho0, hb⟩; refine ⟨_, rfl, ?_⟩; have hbb := Aside0.mk hb; clear hb; have n0 := Aside0.mk (blk_below (bs BK0.out) hbb.out); replace BK0 := n0; clear n0; obtain ⟨hcz3_0_0, hcz3_0_1, hfz3_0_0, hfz3_0_1⟩ := bz2 BK0.out; obtain ⟨lo0, hi0, bd, hm, ho⟩ := laws_FnExactOpsOf.newS (base := w.heap.size) ho0 (below_size (bw HB.out)) (laws_FnExactOpsOf.sz HM.out) hbb.out.size; have HO0 := Aside0.mk ho; replace HM := Aside0.mk hm; have BD2 := Aside0.mk (And.intro bd BD.out); clear BD; have BD := BD2; clear BD2; clear ho ho0 bd hm; obtain ⟨Ao0, co0, eo0⟩ := Kd.S_slice HO0.out; subst eo0; have n0_ := Aside0.mk (below_step (bw HB.out) hbb.out); replace HB := n0_; clear n0_ hbb) | ((with_reducible refine gate_callee (f := 32) rfl ?_); refine goesL_ (some 22) rfl rfl Try.func32 (by kernel_rfl) rfl #[.agg #[.int .i64 t2, .slice Ao0 t3.length co0]] rfl (by (try simp only [mA_]); first | done | rfl | (simp only [List.length_drop, List.length_take]; rfl)) ?_; (with_reducible refine (spec_OpsOf.calls k t2 _ _ t3 t4 t5 _ ?side1 ?side2 A4.out).mono ?_); (case side1 => exact laws_FnExactOpsOf.cS HO0.out); (case side2 => exact (Kd.S_reads' HO0.out).2.1); rintro e w4 ⟨v4_0, rfl, ho0, hb⟩; refine ⟨_, rfl, ?_⟩; have hbb := Aside0.mk hb; clear hb; have n0 := Aside0.mk (blk_below (bs BK0.out) hbb.out); replace BK0 := n0; clear n0; obtain ⟨hcz4_0_0, hcz4_0_1, hfz4_0_0, hfz4_0_1⟩ := bz2 BK0.out; obtain ⟨lo1, hi1, bd, hm, ho⟩ := laws_FnExactOpsOf.newR (base := w.heap.size) ho0 (below_size (bw HB.out)) (laws_FnExactOpsOf.sz HM.out) hbb.out.size; have HO1 := Aside0.mk ho; replace HM := Aside0.mk hm; have BD2 := Aside0.mk (And.intro bd BD.out); clear BD; have BD := BD2; clear BD2; clear ho ho0 bd hm; obtain ⟨Ao1, co1, eo1⟩ := Kd.R_slice HO1.out; subst eo1; have n0_ := Aside0.mk (below_step (bw HB.out) hbb.out); replace HB := n0_; clear n0_ hbb) | ((with_reducible refine gate_callee (f := 33) rfl ?_); refine goesL_ (some 26) rfl rfl Try.func33 (by kernel_rfl) rfl #[.agg #[.int .i64 a0_0, .slice A0_1 l0_1.length c0_1]] rfl (by (try simp only [mA_]); first | done | rfl | (simp only [List.length_drop, List.length_take]; rfl)) ?_; (with_reducible refine (laws_toJobShop.calls k a0_0 A0_1 c0_1 l0_1 t6 t7 _ ?side1 ?side2 A5.out).mono ?_); (case side1 => exact bC HR0_1.out HB.out); (case side2 => exact HC0_1.out); rintro e w5 ⟨v5_0, rfl, ho0, hb⟩; refine ⟨_, rfl, ?_⟩; have hbb := Aside0.mk hb; clear hb; have n1 := Aside0.mk (Kd.R_below (bR HO1.out) hbb.out); replace HO1 := n1; clear n1; have n0 := Aside0.mk (blk_below (bs BK0.out) hbb.out); replace BK0 := n0; clear n0; obtain ⟨hcz5_0_0, hcz5_0_1, hfz5_0_0, hfz5_0_1⟩ := bz2 BK0.out; obtain ⟨lo2, hi2, bd, hm, ho⟩ := laws_FnExactOpsOf.newS (base := w.heap.size) ho0 (below_size (bw HB.out)) (laws_FnExactOpsOf.sz HM.out) hbb.out.size; have HO2 := Aside0.mk ho; replace HM := Aside0.mk hm; have BD2 := Aside0.mk (And.intro bd BD.out); clear BD; have BD := BD2; clear BD2; clear ho ho0 bd hm; obtain ⟨Ao2, co2, eo2⟩ := Kd.S_slice HO2.out; subst eo2; have n0_ := Aside0.mk (below_step (bw HB.out) hbb.out); replace HB := n0_; clear n0_ hbb) | ((with_reducible refine gate_dst (N := 6) rfl ?_); refine box_event ?hg (N := 6) ?hd (cs := #[.int .i64 0, .slice none 0 0]) (t := 51) ?hr ?_; (case hd => rfl); (case hg => rfl); (case hr => first | (go_simp; done) | (go_simp; rfl)); intro gb1 hg w6 hbox hb; have hbb := Aside0.mk hb; clear hb; have n1 := Aside0.mk (Kd.R_below (bR HO1.out) hbb.out); replace HO1 := n1; clear n1; have n2 := Aside0.mk (Kd.S_below (laws_FnExactOpsOf.bS HO2.out) hbb.out); replace HO2 := n2; clear n2; have n0 := Aside0.mk (blk_below (bs BK0.out) hbb.out); replace BK0 := n0; clear n0; obtain ⟨hcz6_0_0, hcz6_0_1, hfz6_0_0, hfz6_0_1⟩ := bz2 BK0.out; have BK1 := Aside0.mk hbox; have n0_ := Aside0.mk (And.intro (And.intro (show _ ≤ gb1 from by rw [hg]; exact laws_FnExactOpsOf.sz HM.out) (Nat.le_succ gb1)) BD.out); replace BD := n0_; clear n0_; clear HM; have HM := Aside0.mk (show gb1 + 1 ≤ _ from blk_lt hbox); have n0_ := Aside0.mk (below_step (bw HB.out) hbb.out); replace HB := n0_; clear n0_ hbb hbox hg; obtain ⟨hcz6_1_0, hcz6_1_1, hfz6_1_0, hfz6_1_1⟩ := bz2 BK1.out; have hnb1_0 := (show gb1 ≠ gb0 from by have b_ := BD.out; omega); have hnb0_1 := (show gb0 ≠ gb1 from by have b_ := BD.out; omega)) | ((with_reducible refine gate_callee (f := 34) rfl ?_); refine goesL_ (some 29) rfl rfl Try.func34 (by kernel_rfl) rfl #[.agg #[.int .i64 t6, .slice Ao2 t7.length co2]] rfl (by (try simp only [mA_]); first | done | rfl | (simp only [List.length_drop, List.length_take]; rfl)) ?_; have n1 := Aside0.mk (Kd.R_far (p := ⟨gb1, 1, none⟩) (Kd.R_far (p := ⟨gb1, 0, none⟩) HO1.out (fun k_ h1 => by have b_ := BD.out; show k_ ≠ gb1; omega) (.int .i64 t6)) (fun k_ h1 => by have b_ := BD.out; show k_ ≠ gb1; omega) (.slice Ao2 t7.length co2)); replace HO1 := n1; clear n1; have n2 := Aside0.mk (Kd.S_far (p := ⟨gb1, 1, none⟩) (Kd.S_far (p := ⟨gb1, 0, none⟩) HO2.out (fun k_ h1 => by have b_ := BD.out; show k_ ≠ gb1; omega) (.int .i64 t6)) (fun k_ h1 => by have b_ := BD.out; show k_ ≠ gb1; omega) (.slice Ao2 t7.length co2)); replace HO2 := n2; clear n2; have n0 := Aside0.mk (blk_far (p := ⟨gb1, 1, none⟩) (blk_far (p := ⟨gb1, 0, none⟩) BK0.out (by have b_ := BD.out; show gb0 ≠ gb1; omega) (.int .i64 t6)) (by have b_ := BD.out; show gb0 ≠ gb1; omega) (.slice Ao2 t7.length co2)); replace BK0 := n0; clear n0; have n1 := Aside0.mk (blk_put (blk_put BK1.out 0 (.int .i64 t6) rfl) 1 (.slice Ao2 t7.length co2) rfl); replace BK1 := n1; clear n1; have n0_ := Aside0.mk (below_set (v := .slice Ao2 t7.length co2) (j := 1) (below_set (v := .int .i64 t6) (j := 0) HB.out (show w.heap.size ≤ gb1 from by have b_ := BD.out; omega)) (show w.heap.size ≤ gb1 from by have b_ := BD.out; omega)); replace HB := n0_; clear n0_; have n0_ := Aside0.mk (laws_FnExactOpsOf.szS ⟨gb1, 1, none⟩ (.slice Ao2 t7.length co2) (laws_FnExactOpsOf.szS ⟨gb1, 0, none⟩ (.int .i64 t6) HM.out)); replace HM := n0_; clear n0_; (with_reducible refine (impl_OpsOf.calls k t6 _ _ t7 t8 t9 _ ?side1 ?side2 A6.out).mono ?_); (case side1 => exact laws_FnExactOpsOf.cS HO2.out); (case side2 => exact (Kd.S_reads' HO2.out).2.1); rintro e w7 ⟨v7_0, rfl, ho0, hb⟩; refine ⟨_, rfl, ?_⟩; have hbb := Aside0.mk hb; clear hb; have n1 := Aside0.mk (Kd.R_below (bR HO1.out) hbb.out); replace HO1 := n1; clear n1; have n2 := Aside0.mk (Kd.S_below (laws_FnExactOpsOf.bS HO2.out) hbb.out); replace HO2 := n2; clear n2; have n0 := Aside0.mk (blk_below (bs BK0.out) hbb.out); replace BK0 := n0; clear n0; obtain ⟨hcz7_0_0, hcz7_0_1, hfz7_0_0, hfz7_0_1⟩ := bz2 BK0.out; have n1 := Aside0.mk (blk_below (bs BK1.out) hbb.out); replace BK1 := n1; clear n1; obtain ⟨hcz7_1_0, hcz7_1_1, hfz7_1_0, hfz7_1_1⟩ := bz2 BK1.out; obtain ⟨lo3, hi3, bd, hm, ho⟩ := laws_FnExactOpsOf.newR (base := w.heap.size) ho0 (below_size (bw HB.out)) (laws_FnExactOpsOf.sz HM.out) hbb.out.size; have HO3 := Aside0.mk ho; replace HM := Aside0.mk hm; have BD2 := Aside0.mk (And.intro bd BD.out); clear BD; have BD := BD2; clear BD2; clear ho ho0 bd hm; obtain ⟨Ao3, co3, eo3⟩ := Kd.R_slice HO3.out; subst eo3; have n0_ := Aside0.mk (below_step (bw HB.out) hbb.out); replace HB := n0_; clear n0_ hbb) | ((with_reducible refine gate_callee (f := 35) rfl ?_); refine goesL_ (some 34) rfl rfl Try.func35 (by kernel_rfl) rfl #[.slice Ao3 t8.length co3, .slice Ao1 t4.length co1] rfl (by (try simp only [mA_]); first | done | rfl | (simp only [List.length_drop, List.length_take]; rfl)) ?_; (with_reducible refine (laws_eqIntA2S.calls k _ _ t8 _ _ t4 true _ ?side1 ?side2 ?side3 ?side4 A7.out).mono ?_); (case side1 => exact laws_FnExactOpsOf.cR HO3.out); (case side2 => exact (Kd.R_reads' HO3.out).2.1); (case side3 => exact laws_FnExactOpsOf.cR HO1.out); (case side4 => exact (Kd.R_reads' HO1.out).2.1); rintro e w8 ⟨rfl, hb⟩; refine ⟨_, rfl, ?_⟩; have hbb := Aside0.mk hb; clear hb; have n1 := Aside0.mk (Kd.R_below (bR HO1.out) hbb.out); replace HO1 := n1; clear n1; have n2 := Aside0.mk (Kd.S_below (laws_FnExactOpsOf.bS HO2.out) hbb.out); replace HO2 := n2; clear n2; have n3 := Aside0.mk (Kd.R_below (bR HO3.out) hbb.out); replace HO3 := n3; clear n3; have n0 := Aside0.mk (blk_below (bs BK0.out) hbb.out); replace BK0 := n0; clear n0; obtain ⟨hcz8_0_0, hcz8_0_1, hfz8_0_0, hfz8_0_1⟩ := bz2 BK0.out; have n1 := Aside0.mk (blk_below (bs BK1.out) hbb.out); replace BK1 := n1; clear n1; obtain ⟨hcz8_1_0, hcz8_1_1, hfz8_1_0, hfz8_1_1⟩ := bz2 BK1.out; replace HM := Aside0.mk (Nat.le_trans (laws_FnExactOpsOf.sz HM.out) hbb.out.size); have n0_ := Aside0.mk (below_step (bw HB.out) hbb.out); replace HB := n0_; clear n0_ hbb))
 have n1 := Aside0.mk (Kd.R_drew HO1.out)
 replace HO1 := n1
 clear n1
 have n2 := Aside0.mk (Kd.S_drew HO2.out)
 replace HO2 := n2
 clear n2
 have n3 := Aside0.mk (Kd.R_drew HO3.out)
 replace HO3 := n3
 clear n3
 have n0 := Aside0.mk (blk_drew BK0.out)
 replace BK0 := n0
 clear n0
 have n1 := Aside0.mk (blk_drew BK1.out)
 replace BK1 := n1
 clear n1
 have n0_ := Aside0.mk (below_drew1 HB.out)
 replace HB := n0_
 clear n0_
 have n0_ := Aside0.mk (show _ ≤ (w8.drew).heap.size from laws_FnExactOpsOf.sz HM.out)
 replace HM := n0_
 clear n0_
 refine start_ (n := 5) (S := fun w' => w'.cell? ⟨gb1, 0, none⟩ = some (.int .i64 t6) ∧ w'.cell? ⟨gb1, 1, none⟩ = some (.slice Ao2 t7.length co2) ∧ w'.cell? ⟨gb0, 0, none⟩ = some (.int .i64 a0_0) ∧ w'.cell? ⟨gb0, 1, none⟩ = some (.slice A0_1 l0_1.length c0_1)) (ds := []) #[false, false, false, false, false] (by kernel_rfl) rfl rfl ⟨(blk_cell BK1.out 0).trans rfl, (blk_cell BK1.out 1).trans rfl, (blk_cell BK0.out 0).trans rfl, (blk_cell BK0.out 1).trans rfl⟩ (fun hHeld => ?_)
 generalize w8.drew = wg8 at HO1 HO2 HO3 BK0 BK1 HB HM hHeld ⊢
 refine take_ (i := 0) (N := some 41) (v := ?_) (a' := ?_) #[true, false, false, false, false] rfl rfl (by kernel_rfl) (fun _ _ _ h => h) (Or.inl ⟨by rfl, ?_⟩) hHeld ?_ ?_
 rotate_left
 ·rintro w' ⟨s0, s1, s2, s3⟩
  go_simp
  with_reducible rfl
 rotate_left
 ·simp only [aq_]
  rfl
 refine take_ (i := 1) (N := some 42) (v := ?_) (a' := ?_) #[true, true, false, false, false] rfl rfl (by kernel_rfl) (fun _ _ _ h => h) (Or.inl ⟨by rfl, ?_⟩) hHeld ?_ ?_
 rotate_left
 ·rintro w' ⟨s0, s1, s2, s3⟩
  go_simp
  with_reducible rfl
 rotate_left
 ·simp only [aq_]
  rfl
 refine one_ (i := 2) (N := some 43) #[true, true, true, false, false] rfl rfl (by kernel_rfl) (by decide) (fun K hK => ?_)
 refine goes_ Try.func33 (by kernel_rfl) rfl #[.agg #[.int .i64 a0_0, .slice A0_1 l0_1.length c0_1]] (by rfl) rfl rfl (by (try simp only [mA_]); first | done | rfl | (simp only [List.length_drop, List.length_take]; rfl)) ?_
 (with_reducible refine (laws_toJobShop.calls k a0_0 A0_1 c0_1 l0_1 t11 t12 _ ?side1 ?side2 A10.out).mono ?_)
 (case side1 => exact bC HR0_1.out HB.out)
 (case side2 => exact HC0_1.out)
 rintro e w9 ⟨v9_0, rfl, ho0, hb⟩
 refine ⟨_, rfl, ?_⟩
 have hbb := Aside0.mk hb
 clear hb
 have n1 := Aside0.mk (Kd.R_below (bR HO1.out) hbb.out)
 replace HO1 := n1
 clear n1
 have n2 := Aside0.mk (Kd.S_below (laws_FnExactOpsOf.bS HO2.out) hbb.out)
 replace HO2 := n2
 clear n2
 have n3 := Aside0.mk (Kd.R_below (bR HO3.out) hbb.out)
 replace HO3 := n3
 clear n3
 have n0 := Aside0.mk (blk_below (bs BK0.out) hbb.out)
 replace BK0 := n0
 clear n0
 obtain ⟨hcz9_0_0, hcz9_0_1, hfz9_0_0, hfz9_0_1⟩ := bz2 BK0.out
 have n1 := Aside0.mk (blk_below (bs BK1.out) hbb.out)
 replace BK1 := n1
 clear n1
 obtain ⟨hcz9_1_0, hcz9_1_1, hfz9_1_0, hfz9_1_1⟩ := bz2 BK1.out
 obtain ⟨lo4, hi4, bd, hm, ho⟩ := laws_FnExactOpsOf.newS (base := w.heap.size) ho0 (below_size (bw HB.out)) (laws_FnExactOpsOf.sz HM.out) hbb.out.size
 have HO4 := Aside0.mk ho
 replace HM := Aside0.mk hm
 have BD2 := Aside0.mk (And.intro bd BD.out)
 clear BD
 have BD := BD2
 clear BD2
 clear ho ho0 bd hm
 obtain ⟨Ao4, co4, eo4⟩ := Kd.S_slice HO4.out
 subst eo4
 have n0_ := Aside0.mk (below_step (bw HB.out) hbb.out)
 replace HB := n0_
 clear n0_ hbb
 refine hK.out _ _ ⟨(blk_cell BK1.out 0).trans rfl, (blk_cell BK1.out 1).trans rfl, (blk_cell BK0.out 0).trans rfl, (blk_cell BK0.out 1).trans rfl⟩ (fun hHeld => ?_)
 clear hK K
 refine norm_ (a' := ?_) ?_ ?_
 rotate_left
 ·show Act.put _ (some 43) _ = _
  simp only [aq_]
  rfl
 refine one_ (i := 3) (N := some 44) #[true, true, true, true, false] rfl rfl (by kernel_rfl) (by decide) (fun K hK => ?_)
 refine goes_ Try.func36 (by kernel_rfl) rfl #[.agg #[.int .i64 t6, .slice Ao2 t7.length co2], .agg #[.int .i64 t11, .slice Ao4 t12.length co4]] (by rfl) rfl rfl (by (try simp only [mA_]); first | done | rfl | (simp only [List.length_drop, List.length_take]; rfl)) ?_
 (with_reducible refine (laws_eqJobShop.calls k t6 _ _ t7 t11 _ _ t12 true _ ?side1 ?side2 ?side3 ?side4 A11.out).mono ?_)
 (case side1 => exact laws_FnExactOpsOf.cS HO2.out)
 (case side2 => exact (Kd.S_reads' HO2.out).2.1)
 (case side3 => exact laws_FnExactOpsOf.cS HO4.out)
 (case side4 => exact (Kd.S_reads' HO4.out).2.1)
 rintro e w10 ⟨rfl, hb⟩
 refine ⟨_, rfl, ?_⟩
 have hbb := Aside0.mk hb
 clear hb
 have n1 := Aside0.mk (Kd.R_below (bR HO1.out) hbb.out)
 replace HO1 := n1
 clear n1
 have n2 := Aside0.mk (Kd.S_below (laws_FnExactOpsOf.bS HO2.out) hbb.out)
 replace HO2 := n2
 clear n2
 have n3 := Aside0.mk (Kd.R_below (bR HO3.out) hbb.out)
 replace HO3 := n3
 clear n3
 have n0 := Aside0.mk (blk_below (bs BK0.out) hbb.out)
 replace BK0 := n0
 clear n0
 obtain ⟨hcz10_0_0, hcz10_0_1, hfz10_0_0, hfz10_0_1⟩ := bz2 BK0.out
 have n1 := Aside0.mk (blk_below (bs BK1.out) hbb.out)
 replace BK1 := n1
 clear n1
 obtain ⟨hcz10_1_0, hcz10_1_1, hfz10_1_0, hfz10_1_1⟩ := bz2 BK1.out
 replace HM := Aside0.mk (Nat.le_trans (laws_FnExactOpsOf.sz HM.out) hbb.out.size)
 have n0_ := Aside0.mk (below_step (bw HB.out) hbb.out)
 replace HB := n0_
 clear n0_ hbb
 refine hK.out _ _ ⟨(blk_cell BK1.out 0).trans rfl, (blk_cell BK1.out 1).trans rfl, (blk_cell BK0.out 0).trans rfl, (blk_cell BK0.out 1).trans rfl⟩ (fun hHeld => ?_)
 clear hK K
 refine norm_ (a' := ?_) ?_ ?_
 rotate_left
 ·show Act.put _ (some 44) _ = _
  simp only [aq_]
  rfl
 refine puq_ (i := 4) (N := some 45) (v := ?_) (a' := ?_) rfl rfl (by kernel_rfl) (fun _ _ _ h => h) (Or.inl ⟨by rfl, ?_⟩) ?_ ?_
 rotate_left
 ·intro w'
  go_simp
  with_reducible rfl
 rotate_left
 ·simp only [aq_]
  rfl
 refine done_ (by kernel_rfl) ?_
 go_wp2_with (first | ((with_reducible refine gate_callee (f := 37) rfl ?_); refine goesL_ (some 48) rfl rfl Try.func37 (by kernel_rfl) rfl #[.agg #[.int .i64 t6, .slice Ao2 t7.length co2], .int .i64 1] rfl (by (try simp only [mA_]); first | done | rfl | (simp only [List.length_drop, List.length_take]; rfl)) ?_; (with_reducible refine (laws_markJobShop.calls k (fun k_ => lo2 ≤ k_ ∧ k_ < hi2) t6 _ t7 1 t14 t15 w _ ?side1 ?side2 A13.out).mono ?_); (case side1 => exact bw HB.out); (case side2 => exact laws_FnExactOpsOf.bS HO2.out); rintro e w11 ⟨rfl, ho0, hb, hk⟩; refine ⟨_, rfl, ?_⟩; have n1 := Aside0.mk (Kd.R_kept (bR HO1.out) hk (fun k_ h1 h2 => by have b_ := BD.out; omega)); replace HO1 := n1; clear n1; have n3 := Aside0.mk (Kd.R_kept (bR HO3.out) hk (fun k_ h1 h2 => by have b_ := BD.out; omega)); replace HO3 := n3; clear n3; have n0 := Aside0.mk (blk_kept (bs BK0.out) hk (fun h2 => by have b_ := BD.out; omega)); replace BK0 := n0; clear n0; obtain ⟨hcz11_0_0, hcz11_0_1, hfz11_0_0, hfz11_0_1⟩ := bz2 BK0.out; have n1 := Aside0.mk (blk_kept (bs BK1.out) hk (fun h2 => by have b_ := BD.out; omega)); replace BK1 := n1; clear n1; obtain ⟨hcz11_1_0, hcz11_1_1, hfz11_1_0, hfz11_1_1⟩ := bz2 BK1.out; have n0_ := Aside0.mk hb; replace HB := n0_; replace HM := Aside0.mk (Nat.le_trans (laws_FnExactOpsOf.sz HM.out) hk.1); clear n0_ ho0 hb hk) | (go_at_call 35; (with_reducible refine (laws_eqIntA2S.calls k _ _ t8 _ _ t4 true _ ?side1 ?side2 ?side3 ?side4 A15.out).mono ?_); (case side1 => exact laws_FnExactOpsOf.cR HO3.out); (case side2 => exact (Kd.R_reads' HO3.out).2.1); (case side3 => exact laws_FnExactOpsOf.cR HO1.out); (case side4 => exact (Kd.R_reads' HO1.out).2.1); rintro e w12 ⟨rfl, hb⟩; have hbb := Aside0.mk hb; clear hb; have n1 := Aside0.mk (Kd.R_below (bR HO1.out) hbb.out); replace HO1 := n1; clear n1; have n3 := Aside0.mk (Kd.R_below (bR HO3.out) hbb.out); replace HO3 := n3; clear n3; have n0 := Aside0.mk (blk_below (bs BK0.out) hbb.out); replace BK0 := n0; clear n0; obtain ⟨hcz12_0_0, hcz12_0_1, hfz12_0_0, hfz12_0_1⟩ := bz2 BK0.out; have n1 := Aside0.mk (blk_below (bs BK1.out) hbb.out); replace BK1 := n1; clear n1; obtain ⟨hcz12_1_0, hcz12_1_1, hfz12_1_0, hfz12_1_1⟩ := bz2 BK1.out; replace HM := Aside0.mk (Nat.le_trans (laws_FnExactOpsOf.sz HM.out) hbb.out.size); have n0_ := Aside0.mk (below_step (bw HB.out) hbb.out); replace HB := n0_; clear n0_ hbb) | ((with_reducible refine gate_callee (f := 38) rfl ?_); refine goesL_ (some 64) rfl rfl Try.func38 (by kernel_rfl) rfl #[.slice Ao3 t8.length co3, .int .i64 1] rfl (by (try simp only [mA_]); first | done | rfl | (simp only [List.length_drop, List.length_take]; rfl)) ?_; (with_reducible refine (laws_markIntA2S.calls k (fun k_ => lo3 ≤ k_ ∧ k_ < hi3) _ t8 1 t17 t18 w _ ?side1 ?side2 A18.out).mono ?_); (case side1 => exact bw HB.out); (case side2 => exact bR HO3.out); rintro e w13 ⟨rfl, ho0, hb, hk⟩; refine ⟨_, rfl, ?_⟩; have n1 := Aside0.mk (Kd.R_kept (bR HO1.out) hk (fun k_ h1 h2 => by have b_ := BD.out; omega)); replace HO1 := n1; clear n1; have n0 := Aside0.mk (blk_kept (bs BK0.out) hk (fun h2 => by have b_ := BD.out; omega)); replace BK0 := n0; clear n0; obtain ⟨hcz13_0_0, hcz13_0_1, hfz13_0_0, hfz13_0_1⟩ := bz2 BK0.out; have n1 := Aside0.mk (blk_kept (bs BK1.out) hk (fun h2 => by have b_ := BD.out; omega)); replace BK1 := n1; clear n1; obtain ⟨hcz13_1_0, hcz13_1_1, hfz13_1_0, hfz13_1_1⟩ := bz2 BK1.out; have LN3 := Aside0.mk (Kd.R_reads' ho0).1; rw [LN3.out] at ho0; replace HO3 := Aside0.mk ho0; have n0_ := Aside0.mk hb; replace HB := n0_; replace HM := Aside0.mk (Nat.le_trans (laws_FnExactOpsOf.sz HM.out) hk.1); clear n0_ ho0 hb hk) | ((with_reducible refine gate_callee (f := 39) rfl ?_); refine goesL_ (some 67) rfl rfl Try.func39 (by kernel_rfl) rfl #[.slice Ao3 t8.length co3, .int .i64 1] rfl (by (try simp only [mA_]); first | done | rfl | (simp only [List.length_drop, List.length_take]; rfl)) ?_; refine calls_args (a' := #[.slice Ao3 t18.length co3, .int .i64 1]) (by rw [LN3.out]) ?_; (with_reducible refine (laws_heldIntA2S.calls k _ _ t18 1 t19 _ ?side1 ?side2 A19.out).mono ?_); (case side1 => exact laws_FnExactOpsOf.cR HO3.out); (case side2 => exact (Kd.R_reads' HO3.out).2.1); rintro e w14 ⟨rfl, hb⟩; refine ⟨_, rfl, ?_⟩; have hbb := Aside0.mk hb; clear hb; have n1 := Aside0.mk (Kd.R_below (bR HO1.out) hbb.out); replace HO1 := n1; clear n1; have n3 := Aside0.mk (Kd.R_below (bR HO3.out) hbb.out); replace HO3 := n3; clear n3; have n0 := Aside0.mk (blk_below (bs BK0.out) hbb.out); replace BK0 := n0; clear n0; obtain ⟨hcz14_0_0, hcz14_0_1, hfz14_0_0, hfz14_0_1⟩ := bz2 BK0.out; have n1 := Aside0.mk (blk_below (bs BK1.out) hbb.out); replace BK1 := n1; clear n1; obtain ⟨hcz14_1_0, hcz14_1_1, hfz14_1_0, hfz14_1_1⟩ := bz2 BK1.out; replace HM := Aside0.mk (Nat.le_trans (laws_FnExactOpsOf.sz HM.out) hbb.out.size); have n0_ := Aside0.mk (below_step (bw HB.out) hbb.out); replace HB := n0_; clear n0_ hbb) | ((with_reducible refine gate_callee (f := 33) rfl ?_); refine goesL_ (some 75) rfl rfl Try.func33 (by kernel_rfl) rfl #[.agg #[.int .i64 a0_0, .slice A0_1 l0_1.length c0_1]] rfl (by (try simp only [mA_]); first | done | rfl | (simp only [List.length_drop, List.length_take]; rfl)) ?_; (with_reducible refine (laws_toJobShop.calls k a0_0 A0_1 c0_1 l0_1 t20 t21 _ ?side1 ?side2 A22.out).mono ?_); (case side1 => exact bC HR0_1.out HB.out); (case side2 => exact HC0_1.out); rintro e w15 ⟨v15_0, rfl, ho0, hb⟩; refine ⟨_, rfl, ?_⟩; have hbb := Aside0.mk hb; clear hb; have n1 := Aside0.mk (Kd.R_below (bR HO1.out) hbb.out); replace HO1 := n1; clear n1; have n3 := Aside0.mk (Kd.R_below (bR HO3.out) hbb.out); replace HO3 := n3; clear n3; have n0 := Aside0.mk (blk_below (bs BK0.out) hbb.out); replace BK0 := n0; clear n0; obtain ⟨hcz15_0_0, hcz15_0_1, hfz15_0_0, hfz15_0_1⟩ := bz2 BK0.out; have n1 := Aside0.mk (blk_below (bs BK1.out) hbb.out); replace BK1 := n1; clear n1; obtain ⟨hcz15_1_0, hcz15_1_1, hfz15_1_0, hfz15_1_1⟩ := bz2 BK1.out; obtain ⟨lo5, hi5, bd, hm, ho⟩ := laws_FnExactOpsOf.newS (base := w.heap.size) ho0 (below_size (bw HB.out)) (laws_FnExactOpsOf.sz HM.out) hbb.out.size; have HO5 := Aside0.mk ho; replace HM := Aside0.mk hm; have BD2 := Aside0.mk (And.intro bd BD.out); clear BD; have BD := BD2; clear BD2; clear ho ho0 bd hm; obtain ⟨Ao5, co5, eo5⟩ := Kd.S_slice HO5.out; subst eo5; have n0_ := Aside0.mk (below_step (bw HB.out) hbb.out); replace HB := n0_; clear n0_ hbb) | ((with_reducible refine gate_callee (f := 34) rfl ?_); refine goesL_ (some 76) rfl rfl Try.func34 (by kernel_rfl) rfl #[.agg #[.int .i64 t20, .slice Ao5 t21.length co5]] rfl (by (try simp only [mA_]); first | done | rfl | (simp only [List.length_drop, List.length_take]; rfl)) ?_; (with_reducible refine (impl_OpsOf.calls k t20 _ _ t21 t22 t23 _ ?side1 ?side2 A23.out).mono ?_); (case side1 => exact laws_FnExactOpsOf.cS HO5.out); (case side2 => exact (Kd.S_reads' HO5.out).2.1); rintro e w16 ⟨v16_0, rfl, ho0, hb⟩; refine ⟨_, rfl, ?_⟩; have hbb := Aside0.mk hb; clear hb; have n1 := Aside0.mk (Kd.R_below (bR HO1.out) hbb.out); replace HO1 := n1; clear n1; have n3 := Aside0.mk (Kd.R_below (bR HO3.out) hbb.out); replace HO3 := n3; clear n3; have n0 := Aside0.mk (blk_below (bs BK0.out) hbb.out); replace BK0 := n0; clear n0; obtain ⟨hcz16_0_0, hcz16_0_1, hfz16_0_0, hfz16_0_1⟩ := bz2 BK0.out; have n1 := Aside0.mk (blk_below (bs BK1.out) hbb.out); replace BK1 := n1; clear n1; obtain ⟨hcz16_1_0, hcz16_1_1, hfz16_1_0, hfz16_1_1⟩ := bz2 BK1.out; obtain ⟨lo6, hi6, bd, hm, ho⟩ := laws_FnExactOpsOf.newR (base := w.heap.size) ho0 (below_size (bw HB.out)) (laws_FnExactOpsOf.sz HM.out) hbb.out.size; have HO6 := Aside0.mk ho; replace HM := Aside0.mk hm; have BD2 := Aside0.mk (And.intro bd BD.out); clear BD; have BD := BD2; clear BD2; clear ho ho0 bd hm; obtain ⟨Ao6, co6, eo6⟩ := Kd.R_slice HO6.out; subst eo6; have n0_ := Aside0.mk (below_step (bw HB.out) hbb.out); replace HB := n0_; clear n0_ hbb) | ((with_reducible refine gate_callee (f := 35) rfl ?_); refine goesL_ (some 81) rfl rfl Try.func35 (by kernel_rfl) rfl #[.slice Ao6 t22.length co6, .slice Ao1 t4.length co1] rfl (by (try simp only [mA_]); first | done | rfl | (simp only [List.length_drop, List.length_take]; rfl)) ?_; (with_reducible refine (laws_eqIntA2S.calls k _ _ t22 _ _ t4 true _ ?side1 ?side2 ?side3 ?side4 A24.out).mono ?_); (case side1 => exact laws_FnExactOpsOf.cR HO6.out); (case side2 => exact (Kd.R_reads' HO6.out).2.1); (case side3 => exact laws_FnExactOpsOf.cR HO1.out); (case side4 => exact (Kd.R_reads' HO1.out).2.1); rintro e w17 ⟨rfl, hb⟩; refine ⟨_, rfl, ?_⟩; have hbb := Aside0.mk hb; clear hb; have n3 := Aside0.mk (Kd.R_below (bR HO3.out) hbb.out); replace HO3 := n3; clear n3; have n0 := Aside0.mk (blk_below (bs BK0.out) hbb.out); replace BK0 := n0; clear n0; obtain ⟨hcz17_0_0, hcz17_0_1, hfz17_0_0, hfz17_0_1⟩ := bz2 BK0.out; have n1 := Aside0.mk (blk_below (bs BK1.out) hbb.out); replace BK1 := n1; clear n1; obtain ⟨hcz17_1_0, hcz17_1_1, hfz17_1_0, hfz17_1_1⟩ := bz2 BK1.out; replace HM := Aside0.mk (Nat.le_trans (laws_FnExactOpsOf.sz HM.out) hbb.out.size); have n0_ := Aside0.mk (below_step (bw HB.out) hbb.out); replace HB := n0_; clear n0_ hbb) | ((with_reducible refine gate_callee (f := 39) rfl ?_); refine goesL_ (some 90) rfl rfl Try.func39 (by kernel_rfl) rfl #[.slice Ao3 t8.length co3, .int .i64 1] rfl (by (try simp only [mA_]); first | done | rfl | (simp only [List.length_drop, List.length_take]; rfl)) ?_; refine calls_args (a' := #[.slice Ao3 t18.length co3, .int .i64 1]) (by rw [LN3.out]) ?_; (with_reducible refine (laws_heldIntA2S.calls k _ _ t18 1 t25 _ ?side1 ?side2 A27.out).mono ?_); (case side1 => exact laws_FnExactOpsOf.cR HO3.out); (case side2 => exact (Kd.R_reads' HO3.out).2.1); rintro e w18 ⟨rfl, hb⟩; refine ⟨_, rfl, ?_⟩; have hbb := Aside0.mk hb; clear hb; have n0 := Aside0.mk (blk_below (bs BK0.out) hbb.out); replace BK0 := n0; clear n0; obtain ⟨hcz18_0_0, hcz18_0_1, hfz18_0_0, hfz18_0_1⟩ := bz2 BK0.out; have n1 := Aside0.mk (blk_below (bs BK1.out) hbb.out); replace BK1 := n1; clear n1; obtain ⟨hcz18_1_0, hcz18_1_1, hfz18_1_0, hfz18_1_1⟩ := bz2 BK1.out; replace HM := Aside0.mk (Nat.le_trans (laws_FnExactOpsOf.sz HM.out) hbb.out.size); have n0_ := Aside0.mk (below_step (bw HB.out) hbb.out); replace HB := n0_; clear n0_ hbb))
 go_ret
 exact ⟨by first | rfl | (simp [*]; done), bw HB.out⟩

end Go.Proofs.Ytgpnophjbibhhaa.X
