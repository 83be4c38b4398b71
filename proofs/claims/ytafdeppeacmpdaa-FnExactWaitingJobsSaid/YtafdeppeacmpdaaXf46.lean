-- Written by a program of this session (wip/gen/xp.py, over the kit's printer). Not trusted: Lean checks it.
import Derived.Test.YtafdeppeacmpdaaX0
import Derived.Test.YtafdeppeacmpdaaXf76
import Derived.Test.YtafdeppeacmpdaaXf77
namespace Go.Proofs.Ytafdeppeacmpdaa.X
open Go.RowKit Go.Proofs.YtafdeppeacmpdaaW.PrintWords Go.Proofs.YtafdeppeacmpdaaW.PrintLast Go.Proofs.YtafdeppeacmpdaaW.PrintMore
attribute [local go_sem] max2_int min2_int max_two min_two max_three min_three max_four min_four   -- for this text's walks alone
set_option linter.unusedVariables false
set_option linter.unusedSimpArgs false

/-! ### spec_l12Task: function 136 -/
def spec_l12Task.l0 : Nat → Int → Int → Int → Int → Int → List (S137) → List (S135) → Option (Bool)
 | 0, _, _, _, _, _, _, _ => none
 | k + 1, x1, x5, x722000, x722001, x722002, x722003, x722004 => if x5 < (x722004.length : Int) then (if 0 ≤ x5 then (if ((rd_T135 x722004 x5).f0) = x1 then (some true) else (spec_l12Task.l0 k x1 (wrap64 (x5 + 1)) x722000 x722001 x722002 x722003 x722004)) else (none)) else (some false)
def spec_l12Task.f (k : Nat) (a0_0 : Int) (a0_1 : Int) (a0_2 : Int) (l0_3 : List (S137)) (l0_4 : List (S135)) (a1 : Int) : Option (Bool) := spec_l12Task.l0 k a1 0 a0_0 a0_1 a0_2 l0_3 l0_4
theorem spec_l12Task.mono_l : ∀ k, (∀ y0 y1 y2 y3 y4 y5 y6, LeO (spec_l12Task.l0 k y0 y1 y2 y3 y4 y5 y6) (spec_l12Task.l0 (k + 1) y0 y1 y2 y3 y4 y5 y6))
 | 0 => fun _ _ _ _ _ _ _ r h => by simp [spec_l12Task.l0] at h
 | k + 1 => by
  have ih0 := spec_l12Task.mono_l k
  ·intro y0 y1 y2 y3 y4 y5 y6
   unfold spec_l12Task.l0
   repeat' first
   | (with_reducible exact ih0 _ _ _ _ _ _ _)
   | (with_reducible exact LeO.refl _)
   | (with_reducible exact LeO.none _)
   | (with_reducible refine LeO.ite ?_ ?_)
   | (with_reducible refine LeO.bind ?_ (fun _ => ?_))
   | exact ih0 _ _ _ _ _ _ _
   | exact LeO.none _
   | refine LeO.ite ?_ ?_
   | refine LeO.bind ?_ (fun _ => ?_)
theorem spec_l12Task.mono : ∀ a0 a1 a2 a3 a4 a5 k, LeO (spec_l12Task.f k a0 a1 a2 a3 a4 a5) (spec_l12Task.f (k + 1) a0 a1 a2 a3 a4 a5) := by
 intro a0 a1 a2 a3 a4 a5 k
 have ih0 := spec_l12Task.mono_l k
 unfold spec_l12Task.f
 repeat' first
   | (with_reducible exact ih0 _ _ _ _ _ _ _)
   | (with_reducible exact LeO.refl _)
   | (with_reducible exact LeO.none _)
   | (with_reducible refine LeO.ite ?_ ?_)
   | (with_reducible refine LeO.bind ?_ (fun _ => ?_))
   | exact ih0 _ _ _ _ _ _ _
   | exact LeO.none _
   | refine LeO.ite ?_ ?_
   | refine LeO.bind ?_ (fun _ => ?_)
set_option maxHeartbeats 8000000 in
set_option maxRecDepth 100000 in
theorem spec_l12Task.calls (k : Nat) (a0_0 : Int) (a0_1 : Int) (a0_2 : Int) (A0_3 : Option Addr) (c0_3 : Nat) (l0_3 : List (S137)) (A0_4 : Option Addr) (c0_4 : Nat) (l0_4 : List (S135)) (a1 : Int) (r : Bool) (w : World) (hr0_3 : Kd.C k137 w A0_3 l0_3.length l0_3) (hc0_3 : l0_3.length ≤ c0_3) (hr0_4 : Kd.C k135 w A0_4 l0_4.length l0_4) (hc0_4 : l0_4.length ≤ c0_4) (h : spec_l12Task.f k a0_0 a0_1 a0_2 l0_3 l0_4 a1 = some r) :
  Calls Try.prog 136 #[.agg #[.int .i64 a0_0, .int .i64 a0_1, .int .i64 a0_2, .slice A0_3 l0_3.length c0_3, .slice A0_4 l0_4.length c0_4], .int .i64 a1] w fun e w' => e = .returned (.bool r) ∧ Below w.heap.size w w' := by
 have hu25 := Try.underlying25
 have HR0_3 := Aside0.mk hr0_3
 have HC0_3 := Aside0.mk hc0_3
 clear hr0_3 hc0_3
 have HR0_4 := Aside0.mk hr0_4
 have HC0_4 := Aside0.mk hc0_4
 clear hr0_4 hc0_4
 have HB := Aside0.mk (Below.refl w.heap.size w)
 have H : (spec_l12Task.l0 k a1 0 a0_0 a0_1 a0_2 l0_3 l0_4) = some r := h
 clear h
 have H' := Aside0.mk H
 clear H
 go_enter Try.func136, Try.ntmps136
 go_wp2_with (first | ((with_reducible refine gate_dst (N := 2) rfl ?_); refine box_event ?hg (N := 2) ?hd (cs := #[.int .i64 a0_0, .int .i64 a0_1, .int .i64 a0_2, .slice A0_3 l0_3.length c0_3, .slice A0_4 l0_4.length c0_4]) (t := 25) ?hr ?_; (case hd => rfl); (case hg => rfl); (case hr => first | (go_simp; done) | (go_simp; rfl)); intro gb721 hg w3 hbox hb; have n0_ := Aside0.mk (below_step (bw HB.out) hb); have n1_ := Aside0.mk (hbox); have n2_ := ge_ hg HB.out; have n3_ := ge_ hg HB.out; clear HB; have HB := n0_; have BK721 := n1_; have GW721 := n2_; have GE721 := n3_; clear n0_ n1_ n2_ n3_; clear hb hbox hg))
 go_loopg [5] k (fun kq v5 w' => ∃ (x5_1 : Int), v5 = .int .i64 x5_1 ∧ Aside0 (spec_l12Task.l0 kq a1 x5_1 a0_0 a0_1 a0_2 l0_3 l0_4 = some r) ∧ Aside0 (kq ≤ k) ∧ Aside0 (w'.heap[gb721]? = some (.cells #[.int .i64 a0_0, .int .i64 a0_1, .int .i64 a0_2, (.slice A0_3 l0_3.length c0_3), (.slice A0_4 l0_4.length c0_4)] 25 (0, 0))) ∧ Aside0 (Below w.heap.size w w'))
 case atStart => exact ⟨(0), (by first | rfl | (simp; done) | (simp [*]; done)), H', ⟨Nat.le_refl _⟩, ⟨bs BK721.out⟩, ⟨by repeat (first | (with_reducible first | exact bw HB.out | refine bset ?_ (by assumption) | apply below_alloc | apply pw_below_drewN | apply below_drew1) | exact HB.out)⟩⟩
 case round =>
  clear H'
  try clear c1
  try clear p2
  obtain ⟨x5_1, rfl, HA, HK1, BK721, HB⟩ := hrel
  cases gk with
  | zero => exact absurd HA.out (by simp [spec_l12Task.l0])
  | succ k1 =>
   have H := HA.out
   clear HA
   simp only [spec_l12Task.l0] at H
   by_cases c4 : x5_1 < (l0_4.length : Int)
   ·rw [if_pos c4] at H
    have c4b0 : decide (x5_1 < (l0_4.length : Int)) = true := decide_eq_true c4
    clear c4
    by_cases c5 : 0 ≤ x5_1
    ·rw [if_pos c5] at H
     have c5b0 : decide (0 ≤ x5_1) = true := decide_eq_true c5
     clear c5
     by_cases c6 : ((rd_T135 l0_4 x5_1).f0) = a1
     ·rw [if_pos c6] at H
      have c6b0 : (((rd_T135 l0_4 x5_1).f0) == a1) = true := beq_iff_eq.mpr c6
      have c6b1 : (((rd_T135 l0_4 x5_1).f0) != a1) = false := bne_eq_false_iff_eq.mpr c6
      clear c6
      obtain rfl := Option.some.inj H
      have hcz7_0 := b5_0 BK721.out
      have hcz7_1 := b5_1 BK721.out
      have hcz7_2 := b5_2 BK721.out
      have hcz7_3 := b5_3 BK721.out
      have hcz7_4 := b5_4 BK721.out
      have hfz7_0 := blk_frozen BK721.out 0
      have hfz7_1 := blk_frozen BK721.out 1
      have hfz7_2 := blk_frozen BK721.out 2
      have hfz7_3 := blk_frozen BK721.out 3
      have hfz7_4 := blk_frozen BK721.out 4
      have p722 : 0 ≤ (x5_1 : Int) := of_decide_eq_true (by first | (with_reducible assumption) | assumption)
      have q722 : x5_1 < (l0_4.length : Int) := of_decide_eq_true (by first | (with_reducible assumption) | assumption)
      obtain ⟨ad722, e722, hx722_0, hx722_1, hx722_2⟩ := at_T135 HR0_4.out x5_1 p722 q722
      cases e722
      replace hx722_0 := (HB.out.cell (World.block_lt_of_cell? w _ hx722_0)).trans hx722_0
      replace hx722_1 := (HB.out.cell (World.block_lt_of_cell? w _ hx722_1)).trans hx722_1
      replace hx722_2 := (HB.out.cell (World.block_lt_of_cell? w _ hx722_2)).trans hx722_2
      replace p722 := eq_true p722
      replace q722 := eq_true q722
      go_wp2
      go_ret
      exact ⟨by first | rfl | (simp [errW_none, errW_some] <;> rfl) | (simp [*, errW_none, errW_some] <;> rfl), by repeat (first | (with_reducible first | exact bw HB.out | refine bset ?_ (by assumption) | apply below_alloc | apply pw_below_drewN | apply below_drew1) | exact HB.out)⟩
     ·rw [if_neg c6] at H
      have c6b0 : (((rd_T135 l0_4 x5_1).f0) == a1) = false := beq_eq_false_iff_ne.mpr c6
      have c6b1 : (((rd_T135 l0_4 x5_1).f0) != a1) = true := bne_iff_ne.mpr c6
      have H' := Aside0.mk H
      clear H
      have hcz8_0 := b5_0 BK721.out
      have hcz8_1 := b5_1 BK721.out
      have hcz8_2 := b5_2 BK721.out
      have hcz8_3 := b5_3 BK721.out
      have hcz8_4 := b5_4 BK721.out
      have hfz8_0 := blk_frozen BK721.out 0
      have hfz8_1 := blk_frozen BK721.out 1
      have hfz8_2 := blk_frozen BK721.out 2
      have hfz8_3 := blk_frozen BK721.out 3
      have hfz8_4 := blk_frozen BK721.out 4
      have p722 : 0 ≤ (x5_1 : Int) := of_decide_eq_true (by first | (with_reducible assumption) | assumption)
      have q722 : x5_1 < (l0_4.length : Int) := of_decide_eq_true (by first | (with_reducible assumption) | assumption)
      obtain ⟨ad722, e722, hx722_0, hx722_1, hx722_2⟩ := at_T135 HR0_4.out x5_1 p722 q722
      cases e722
      replace hx722_0 := (HB.out.cell (World.block_lt_of_cell? w _ hx722_0)).trans hx722_0
      replace hx722_1 := (HB.out.cell (World.block_lt_of_cell? w _ hx722_1)).trans hx722_1
      replace hx722_2 := (HB.out.cell (World.block_lt_of_cell? w _ hx722_2)).trans hx722_2
      replace p722 := eq_true p722
      replace q722 := eq_true q722
      go_wp2
      go_roundg k1
      case measure => have := HK1.out; omega
      case rel => exact ⟨(wrap64 (x5_1 + 1)), (by first | rfl | (simp; done) | (simp [*]; done)), H', ⟨by have := HK1.out; omega⟩, ⟨bs BK721.out⟩, ⟨by repeat (first | (with_reducible first | exact bw HB.out | refine bset ?_ (by assumption) | apply below_alloc | apply pw_below_drewN | apply below_drew1) | exact HB.out)⟩⟩
    ·rw [if_neg c5] at H
     exact absurd H (by simp)
   ·rw [if_neg c4] at H
    have c4b0 : decide (x5_1 < (l0_4.length : Int)) = false := decide_eq_false c4
    clear c4
    obtain rfl := Option.some.inj H
    have hcz9_0 := b5_0 BK721.out
    have hcz9_1 := b5_1 BK721.out
    have hcz9_2 := b5_2 BK721.out
    have hcz9_3 := b5_3 BK721.out
    have hcz9_4 := b5_4 BK721.out
    have hfz9_0 := blk_frozen BK721.out 0
    have hfz9_1 := blk_frozen BK721.out 1
    have hfz9_2 := blk_frozen BK721.out 2
    have hfz9_3 := blk_frozen BK721.out 3
    have hfz9_4 := blk_frozen BK721.out 4
    go_wp2
    go_ret
    exact ⟨by first | rfl | (simp [errW_none, errW_some] <;> rfl) | (simp [*, errW_none, errW_some] <;> rfl), by repeat (first | (with_reducible first | exact bw HB.out | refine bset ?_ (by assumption) | apply below_alloc | apply pw_below_drewN | apply below_drew1) | exact HB.out)⟩

/-! ### spec_l12Waiting: function 101 -/
abbrev q101_0 : Array Bool := #[false, false, false, false, false, false, false, false, false, false, false, false, false, false, false]
abbrev q101_4 : Array Bool := #[true, true, true, false, false, false, true, false, false, false, false, false, false, false, false]
abbrev q101_7 : Array Bool := #[true, true, true, true, true, true, true, false, false, false, false, false, false, false, false]
abbrev q101_8 : Array Bool := #[true, true, true, true, true, true, true, true, false, false, false, false, false, false, false]
abbrev q101_12 : Array Bool := #[true, true, true, true, true, true, true, true, true, true, true, true, false, false, false]
abbrev q101_13 : Array Bool := #[true, true, true, true, true, true, true, true, true, true, true, true, true, false, false]
def spec_l12Waiting.l0 : Nat → List Int → Int → Int → Int → Int → List (S137) → List (S135) → Option (List Int)
 | 0, _, _, _, _, _, _, _ => none
 | k + 1, x3, x4, x724000, x724001, x724002, x724003, x724004 => if x4 < (x724003.length : Int) then (if 0 ≤ x4 then (if ((rd_T137 x724003 x4).f2) ≤ x724002 then ((spec_l12Task.f k x724000 x724001 x724002 x724003 x724004 x4).bind fun t728 => (if t728 = true then (spec_l12Waiting.l0 k x3 (wrap64 (x4 + 1)) x724000 x724001 x724002 x724003 x724004) else (if x3.length < 17592186044416 then (spec_l12Waiting.l0 k (x3 ++ [x4]) (wrap64 (x4 + 1)) x724000 x724001 x724002 x724003 x724004) else (none)))) else (spec_l12Waiting.l0 k x3 (wrap64 (x4 + 1)) x724000 x724001 x724002 x724003 x724004)) else (none)) else (some x3)
def spec_l12Waiting.f (k : Nat) (a0_0 : Int) (a0_1 : Int) (a0_2 : Int) (l0_3 : List (S137)) (l0_4 : List (S135)) : Option (List Int) := spec_l12Waiting.l0 k (([] : List Int)) 0 a0_0 a0_1 a0_2 l0_3 l0_4
theorem spec_l12Waiting.mono_l : ∀ k, (∀ y0 y1 y2 y3 y4 y5 y6, LeO (spec_l12Waiting.l0 k y0 y1 y2 y3 y4 y5 y6) (spec_l12Waiting.l0 (k + 1) y0 y1 y2 y3 y4 y5 y6))
 | 0 => fun _ _ _ _ _ _ _ r h => by simp [spec_l12Waiting.l0] at h
 | k + 1 => by
  have ih0 := spec_l12Waiting.mono_l k
  ·intro y0 y1 y2 y3 y4 y5 y6
   unfold spec_l12Waiting.l0
   repeat' first
   | (with_reducible exact ih0 _ _ _ _ _ _ _)
   | (with_reducible exact spec_l12Task.mono _ _ _ _ _ _ _)
   | (with_reducible exact LeO.refl _)
   | (with_reducible exact LeO.none _)
   | (with_reducible refine LeO.ite ?_ ?_)
   | (with_reducible refine LeO.bind ?_ (fun _ => ?_))
   | exact ih0 _ _ _ _ _ _ _
   | exact spec_l12Task.mono _ _ _ _ _ _ _
   | exact LeO.none _
   | refine LeO.ite ?_ ?_
   | refine LeO.bind ?_ (fun _ => ?_)
theorem spec_l12Waiting.mono : ∀ a0 a1 a2 a3 a4 k, LeO (spec_l12Waiting.f k a0 a1 a2 a3 a4) (spec_l12Waiting.f (k + 1) a0 a1 a2 a3 a4) := by
 intro a0 a1 a2 a3 a4 k
 have ih0 := spec_l12Waiting.mono_l k
 unfold spec_l12Waiting.f
 repeat' first
   | (with_reducible exact ih0 _ _ _ _ _ _ _)
   | (with_reducible exact spec_l12Task.mono _ _ _ _ _ _ _)
   | (with_reducible exact LeO.refl _)
   | (with_reducible exact LeO.none _)
   | (with_reducible refine LeO.ite ?_ ?_)
   | (with_reducible refine LeO.bind ?_ (fun _ => ?_))
   | exact ih0 _ _ _ _ _ _ _
   | exact spec_l12Task.mono _ _ _ _ _ _ _
   | exact LeO.none _
   | refine LeO.ite ?_ ?_
   | refine LeO.bind ?_ (fun _ => ?_)
def spec_l12Waiting.T5 : Bool × List (List Nat × List Nat) := (true, [([], []), ([0], [0]), ([], []), ([1, 2], [1, 2]), ([3], [3]), ([4], [4]), ([], []), ([6], [6]), ([5, 7], [5, 7]), ([8], [8]), ([9], [9]), ([9], [9]), ([10, 11, 9, 9], [9, 10, 11]), ([12, 9], [9, 12]), ([9, 13], [9, 13])])
def spec_l12Waiting.B5 : List Nat := [0, 1, 0, 7, 15, 31, 0, 64, 255, 511, 1023, 1023, 4095, 8191, 16383]
theorem spec_l12Waiting.tab5 : rtab .any (opsOf Try.f101 5) = spec_l12Waiting.T5 := by kernel_rfl
theorem spec_l12Waiting.bits5 : waitsOk spec_l12Waiting.T5.2 spec_l12Waiting.B5 = true := by kernel_rfl
set_option maxHeartbeats 8000000 in
set_option maxRecDepth 100000 in
theorem spec_l12Waiting.calls (k : Nat) (a0_0 : Int) (a0_1 : Int) (a0_2 : Int) (A0_3 : Option Addr) (c0_3 : Nat) (l0_3 : List (S137)) (A0_4 : Option Addr) (c0_4 : Nat) (l0_4 : List (S135)) (r : List Int) (w : World) (hr0_3 : Kd.C k137 w A0_3 l0_3.length l0_3) (hc0_3 : l0_3.length ≤ c0_3) (hr0_4 : Kd.C k135 w A0_4 l0_4.length l0_4) (hc0_4 : l0_4.length ≤ c0_4) (h : spec_l12Waiting.f k a0_0 a0_1 a0_2 l0_3 l0_4 = some r) :
  Calls Try.prog 101 #[.agg #[.int .i64 a0_0, .int .i64 a0_1, .int .i64 a0_2, .slice A0_3 l0_3.length c0_3, .slice A0_4 l0_4.length c0_4]] w fun e w' => ∃ v0_ : Value, e = .returned (v0_) ∧ Kd.R (Kd.int .i64) 3 w' w.heap.size (fun _ => True) v0_ r ∧ Below w.heap.size w w' := by
 have hu25 := Try.underlying25
 have HR0_3 := Aside0.mk hr0_3
 have HC0_3 := Aside0.mk hc0_3
 clear hr0_3 hc0_3
 have HR0_4 := Aside0.mk hr0_4
 have HC0_4 := Aside0.mk hc0_4
 clear hr0_4 hc0_4
 have HB := Aside0.mk (Below.refl w.heap.size w)
 have H : (spec_l12Waiting.l0 k (([] : List Int)) 0 a0_0 a0_1 a0_2 l0_3 l0_4) = some r := h
 clear h
 obtain ⟨y724, hy724⟩ : ∃ y_ : List Int, y_ = (([] : List Int)) := ⟨_, rfl⟩
 replace H : (spec_l12Waiting.l0 k y724 0 a0_0 a0_1 a0_2 l0_3 l0_4) = some r := by first | (rw [hy724]; with_reducible exact H) | (have H2_ := (Option.bind_some _ _).symm.trans H; rw [hy724]; with_reducible exact H2_) | (have H2_ := (Option.bind_some _ _).symm.trans H; with_reducible exact H2_) | with_reducible exact H | (rw [hy724]; exact H) | exact H
 have Ny724 := Aside0.mk hy724
 clear hy724
 have H' := Aside0.mk H
 clear H
 go_enter Try.func101, Try.ntmps101
 go_wp2_with (first | ((with_reducible refine gate_dst (N := 1) rfl ?_); refine box_event ?hg (N := 1) ?hd (cs := #[.int .i64 a0_0, .int .i64 a0_1, .int .i64 a0_2, .slice A0_3 l0_3.length c0_3, .slice A0_4 l0_4.length c0_4]) (t := 25) ?hr ?_; (case hd => rfl); (case hg => rfl); (case hr => first | (go_simp; done) | (go_simp; rfl)); intro gb723 hg w2 hbox hb; have n0_ := Aside0.mk (below_step (bw HB.out) hb); have n1_ := Aside0.mk (hbox); have n2_ := ge_ hg HB.out; have n3_ := ge_ hg HB.out; clear HB; have HB := n0_; have BK723 := n1_; have GW723 := n2_; have GE723 := n3_; clear n0_ n1_ n2_ n3_; clear hb hbox hg) | ((with_reducible refine gate_dst (N := 5) rfl ?_); refine Kd.R_lit (Kd.int .i64) _ 3 ?hg (N := 5) ?hd (xs := ([] : List Int)) (inner := []) (ok := fun _ => True) (okp := fun _ => True) ?hr ?hp (fun _ hk => hk) trivial (Below.refl _ _) (Nat.le_refl _) (by simp) ?_; (case hd => rfl); (case hg => rfl); (case hr => first | (go_simp; done) | (go_simp; rfl)); (case hp => exact (Reps.none _ _)); intro v725 w3 ho4 hb hg_ hnew_; clear hg_ hnew_; (first | rw [← Ny724.out] at ho4 | (simp only [Int.reduceToNat] at ho4; rw [← Ny724.out] at ho4)); have n0_ := Aside0.mk (Kd.R_lower ho4 (below_size (by repeat (first | (with_reducible first | exact bw HB.out | refine bset ?_ (by assumption) | apply below_alloc | apply pw_below_drewN | apply below_drew1) | exact HB.out)))); have n1_ := Aside0.mk (blk_below (bs BK723.out) hb); have n2_ := Aside0.mk (below_step (by repeat (first | (with_reducible first | exact bw HB.out | refine bset ?_ (by assumption) | apply below_alloc | apply pw_below_drewN | apply below_drew1) | exact HB.out)) hb); clear BK723; clear HB; have HO726 := n0_; have BK723 := n1_; have HB := n2_; clear n0_ n1_ n2_; clear hb ho4))
 go_loopg [3, 4] k (fun kq v3 v4 w' => ∃ (x3_1 : List Int) (x4_1 : Int), v4 = .int .i64 x4_1 ∧ Aside0 (spec_l12Waiting.l0 kq x3_1 x4_1 a0_0 a0_1 a0_2 l0_3 l0_4 = some r) ∧ Aside0 (kq ≤ k) ∧ Aside0 (Kd.R (Kd.int .i64) 3 w' w.heap.size (fun _ => True) v3 x3_1) ∧ Aside0 (w'.heap[gb723]? = some (.cells #[.int .i64 a0_0, .int .i64 a0_1, .int .i64 a0_2, (.slice A0_3 l0_3.length c0_3), (.slice A0_4 l0_4.length c0_4)] 25 (0, 0))) ∧ Aside0 (Below w.heap.size w w'))
 case atStart => exact ⟨(y724), (0), (by first | rfl | (simp; done) | (simp [*]; done)), H', ⟨Nat.le_refl _⟩, ⟨bR HO726.out⟩, ⟨bs BK723.out⟩, ⟨by repeat (first | (with_reducible first | exact bw HB.out | refine bset ?_ (by assumption) | apply below_alloc | apply pw_below_drewN | apply below_drew1) | exact HB.out)⟩⟩
 case round =>
  clear H'
  try clear c1
  try clear p2
  obtain ⟨x3_1, x4_1, rfl, HA, HK1, HO_3, BK723, HB⟩ := hrel
  cases gk with
  | zero => exact absurd HA.out (by simp [spec_l12Waiting.l0])
  | succ k1 =>
   have H := HA.out
   clear HA
   simp only [spec_l12Waiting.l0] at H
   by_cases c5 : x4_1 < (l0_3.length : Int)
   ·rw [if_pos c5] at H
    have c5b0 : decide (x4_1 < (l0_3.length : Int)) = true := decide_eq_true c5
    clear c5
    by_cases c6 : 0 ≤ x4_1
    ·rw [if_pos c6] at H
     have c6b0 : decide (0 ≤ x4_1) = true := decide_eq_true c6
     clear c6
     by_cases c7 : ((rd_T137 l0_3 x4_1).f2) ≤ a0_2
     ·rw [if_pos c7] at H
      have c7b0 : decide (((rd_T137 l0_3 x4_1).f2) ≤ a0_2) = true := decide_eq_true c7
      clear c7
      replace H := Option.bind_eq_some_iff.mp H
      obtain ⟨t728, A80, H⟩ := H
      replace H : (if t728 = true then (spec_l12Waiting.l0 k1 x3_1 (wrap64 (x4_1 + 1)) a0_0 a0_1 a0_2 l0_3 l0_4) else (if x3_1.length < 17592186044416 then (spec_l12Waiting.l0 k1 (x3_1 ++ [x4_1]) (wrap64 (x4_1 + 1)) a0_0 a0_1 a0_2 l0_3 l0_4) else (none))) = some r := H
      have A8 := Aside0.mk A80
      clear A80
      by_cases c9 : t728 = true
      ·subst c9
       have H1 : (spec_l12Waiting.l0 k1 x3_1 (wrap64 (x4_1 + 1)) a0_0 a0_1 a0_2 l0_3 l0_4) = some r := by rw [if_pos rfl] at H; exact H
       clear H
       have H := H1
       clear H1
       have H' := Aside0.mk H
       clear H
       have hcz10_0 := b5_0 BK723.out
       have hcz10_1 := b5_1 BK723.out
       have hcz10_2 := b5_2 BK723.out
       have hcz10_3 := b5_3 BK723.out
       have hcz10_4 := b5_4 BK723.out
       have hfz10_0 := blk_frozen BK723.out 0
       have hfz10_1 := blk_frozen BK723.out 1
       have hfz10_2 := blk_frozen BK723.out 2
       have hfz10_3 := blk_frozen BK723.out 3
       have hfz10_4 := blk_frozen BK723.out 4
       try go_wp2
       have n0_ := Aside0.mk (Kd.R_drew HO_3.out)
       have n1_ := Aside0.mk (blk_drew BK723.out)
       have n2_ := Aside0.mk (below_drew1 HB.out)
       clear HO_3
       clear BK723
       clear HB
       have HO_3 := n0_
       have BK723 := n1_
       have HB := n2_
       clear n0_ n1_ n2_
       have p727 : 0 ≤ (x4_1 : Int) := of_decide_eq_true (by first | (with_reducible assumption) | assumption)
       have q727 : x4_1 < (l0_3.length : Int) := of_decide_eq_true (by first | (with_reducible assumption) | assumption)
       obtain ⟨ad727, e727, hx727_0, hx727_1, hx727_2, hx727_3⟩ := at_T137 HR0_3.out x4_1 p727 q727
       have hw727_3 := hx727_3
       have hw727_2 := hx727_2
       have hw727_1 := hx727_1
       have hw727_0 := hx727_0
       cases e727
       replace hx727_0 := (HB.out.cell (World.block_lt_of_cell? w _ hx727_0)).trans hx727_0
       replace hx727_1 := (HB.out.cell (World.block_lt_of_cell? w _ hx727_1)).trans hx727_1
       replace hx727_2 := (HB.out.cell (World.block_lt_of_cell? w _ hx727_2)).trans hx727_2
       replace hx727_3 := (HB.out.cell (World.block_lt_of_cell? w _ hx727_3)).trans hx727_3
       replace p727 := eq_true p727
       replace q727 := eq_true q727
       refine start_ (n := 15) (S := fun w' => w'.cell? ⟨gb723, 0, none⟩ = some (.int .i64 a0_0) ∧ w'.cell? ⟨gb723, 1, none⟩ = some (.int .i64 a0_1) ∧ w'.cell? ⟨gb723, 2, none⟩ = some (.int .i64 a0_2) ∧ w'.cell? ⟨gb723, 3, none⟩ = some (.slice (some ad727) l0_3.length c0_3) ∧ w'.cell? ⟨gb723, 4, none⟩ = some (.slice A0_4 l0_4.length c0_4) ∧ w'.cell? (ad727.add ((x4_1).toNat * 4)) = some (.int .i64 ((rd_T137 l0_3 x4_1).f0)) ∧ w'.cell? ⟨(ad727.add ((x4_1).toNat * 4)).block, (ad727.add ((x4_1).toNat * 4)).off + 1, none⟩ = some (.int .i64 ((rd_T137 l0_3 x4_1).f1)) ∧ w'.cell? ⟨(ad727.add ((x4_1).toNat * 4)).block, (ad727.add ((x4_1).toNat * 4)).off + 2, none⟩ = some (.int .i64 ((rd_T137 l0_3 x4_1).f2)) ∧ w'.cell? ⟨(ad727.add ((x4_1).toNat * 4)).block, (ad727.add ((x4_1).toNat * 4)).off + 3, none⟩ = some (.int .i64 ((rd_T137 l0_3 x4_1).f3))) (ds := []) q101_0 (by kernel_rfl) rfl rfl ⟨(blk_cell BK723.out 0).trans rfl, (blk_cell BK723.out 1).trans rfl, (blk_cell BK723.out 2).trans rfl, (blk_cell BK723.out 3).trans rfl, (blk_cell BK723.out 4).trans rfl, (bcl_ HB.out hw727_0 :), (bcl_ HB.out hw727_1 :), (bcl_ HB.out hw727_2 :), (bcl_ HB.out hw727_3 :)⟩ (fun hHeld => ?_); refine with_tabW spec_l12Waiting.tab5 spec_l12Waiting.bits5 (fun HT_ HW_ => ?_)
       generalize wr.drew = w11 at HO_3 BK723 HB hx727_0 hx727_1 hx727_2 hx727_3 hHeld ⊢
       refine pup_ (i := 0) (N := some 13) (v := ?_) (a' := ?_) HT_ rfl rfl (by kernel_rfl) (fun _ _ _ h => h) (Or.inl ⟨by rfl, ?_⟩) ?_ ?_
       rotate_left
       ·intro w'
        go_simp
        with_reducible rfl
       rotate_left
       ·simp only [aq_]
        rfl
       refine pup_ (i := 2) (N := some 15) (v := ?_) (a' := ?_) HT_ rfl rfl (by kernel_rfl) (fun _ _ _ h => h) (Or.inl ⟨by rfl, ?_⟩) ?_ ?_
       rotate_left
       ·intro w'
        go_simp
        with_reducible rfl
       rotate_left
       ·simp only [aq_]
        rfl
       refine pup_ (i := 6) (N := some 19) (v := ?_) (a' := ?_) HT_ rfl rfl (by kernel_rfl) (fun _ _ _ h => h) (Or.inl ⟨by rfl, ?_⟩) ?_ ?_
       rotate_left
       ·intro w'
        go_simp
        with_reducible rfl
       rotate_left
       ·simp only [aq_]
        rfl
       refine take_ (i := 1) (N := some 14) (v := ?_) (a' := ?_) q101_4 rfl rfl (take_ofW HT_.out HW_.out (by kernel_rfl)) (fun _ _ _ h => h) (Or.inl ⟨by rfl, ?_⟩) hHeld ?_ ?_
       rotate_left
       ·rintro w' ⟨s0, s1, s2, s3, s4, s5, s6, s7, s8⟩
        go_simp
        with_reducible rfl
       rotate_left
       ·simp only [aq_]
        rfl
       refine pup_ (i := 3) (N := some 16) (v := ?_) (a' := ?_) HT_ rfl rfl (by kernel_rfl) (fun _ _ _ h => h) (Or.inl ⟨by rfl, ?_⟩) ?_ ?_
       rotate_left
       ·intro w'
        go_simp
        with_reducible rfl
       rotate_left
       ·simp only [aq_]
        rfl
       refine pup_ (i := 4) (N := some 17) (v := ?_) (a' := ?_) HT_ rfl rfl (by kernel_rfl) (fun _ _ _ h => h) (Or.inl ⟨by rfl, ?_⟩) ?_ ?_
       rotate_left
       ·intro w'
        go_simp
        with_reducible rfl
       rotate_left
       ·simp only [aq_]
        rfl
       refine take_ (i := 5) (N := some 18) (v := ?_) (a' := ?_) q101_7 rfl rfl (take_ofW HT_.out HW_.out (by kernel_rfl)) (fun _ _ _ h => h) (Or.inl ⟨by rfl, ?_⟩) hHeld ?_ ?_
       rotate_left
       ·rintro w' ⟨s0, s1, s2, s3, s4, s5, s6, s7, s8⟩
        go_simp
        with_reducible rfl
       rotate_left
       ·simp only [aq_]
        rfl
       refine take_ (i := 7) (N := some 20) (v := ?_) (a' := ?_) q101_8 rfl rfl (take_ofW HT_.out HW_.out (by kernel_rfl)) (fun _ _ _ h => h) (Or.inl ⟨by rfl, ?_⟩) hHeld ?_ ?_
       rotate_left
       ·rintro w' ⟨s0, s1, s2, s3, s4, s5, s6, s7, s8⟩
        go_simp
        with_reducible rfl
       rotate_left
       ·simp only [aq_]
        rfl
       refine pup_ (i := 8) (N := some 21) (v := ?_) (a' := ?_) HT_ rfl rfl (by kernel_rfl) (fun _ _ _ h => h) (Or.inl ⟨by rfl, ?_⟩) ?_ ?_
       rotate_left
       ·intro w'
        go_simp
        with_reducible rfl
       rotate_left
       ·simp only [aq_]
        rfl
       refine pup_ (i := 9) (N := some 22) (v := ?_) (a' := ?_) HT_ rfl rfl (by kernel_rfl) (fun _ _ _ h => h) (Or.inl ⟨by rfl, ?_⟩) ?_ ?_
       rotate_left
       ·intro w'
        go_simp
        with_reducible rfl
       rotate_left
       ·simp only [aq_]
        rfl
       refine pup_ (i := 11) (N := some 24) (v := ?_) (a' := ?_) HT_ rfl rfl (by kernel_rfl) (fun _ _ _ h => h) (Or.inl ⟨by rfl, ?_⟩) ?_ ?_
       rotate_left
       ·intro w'
        go_simp
        with_reducible rfl
       rotate_left
       ·simp only [aq_]
        rfl
       refine take_ (i := 10) (N := some 23) (v := ?_) (a' := ?_) q101_12 rfl rfl (take_ofW HT_.out HW_.out (by kernel_rfl)) (fun _ _ _ h => h) (Or.inl ⟨by rfl, ?_⟩) hHeld ?_ ?_
       rotate_left
       ·rintro w' ⟨s0, s1, s2, s3, s4, s5, s6, s7, s8⟩
        go_simp
        with_reducible rfl
       rotate_left
       ·simp only [aq_]
        rfl
       refine one_ (i := 12) (N := some 25) q101_13 rfl rfl (one_of HT_.out (by kernel_rfl)) (by decide) (fun K hK => ?_)
       refine goes_ Try.func136 (by kernel_rfl) rfl #[.agg #[.int .i64 a0_0, .int .i64 a0_1, .int .i64 a0_2, .slice (some ad727) l0_3.length c0_3, .slice A0_4 l0_4.length c0_4], .int .i64 x4_1] (by rfl) rfl rfl (by (try simp only [mA_]); first | done | rfl | (simp only [List.length_drop, List.length_take]; rfl)) ?_
       with_reducible refine (spec_l12Task.calls k1 a0_0 a0_1 a0_2 _ _ l0_3 _ _ l0_4 x4_1 true _ ?side1 ?side2 ?side3 ?side4 A8.out).mono ?_
       (case side1 => first | exact bC HR0_3.out HB.out | exact Kd.C_below HR0_3.out HB.out)
       (case side2 => exact HC0_3.out)
       (case side3 => first | exact bC HR0_4.out HB.out | exact Kd.C_below HR0_4.out HB.out)
       (case side4 => exact HC0_4.out)
       rintro e w12 ⟨rfl, hb⟩
       refine ⟨_, rfl, ?_⟩
       have n0_ := Aside0.mk (Kd.R_below (bR HO_3.out) hb)
       have n1_ := Aside0.mk (blk_below (bs BK723.out) hb)
       have n2_ := Aside0.mk (below_step (by repeat (first | (with_reducible first | exact bw HB.out | refine bset ?_ (by assumption) | apply below_alloc | apply pw_below_drewN | apply below_drew1) | exact HB.out)) hb)
       clear HO_3
       clear BK723
       clear HB
       have HO_3 := n0_
       have BK723 := n1_
       have HB := n2_
       clear n0_ n1_ n2_
       (try clear hb)
       (try clear hb2)
       (try clear hk)
       (try clear hi)
       refine hK.out _ _ ⟨(blk_cell BK723.out 0).trans rfl, (blk_cell BK723.out 1).trans rfl, (blk_cell BK723.out 2).trans rfl, (blk_cell BK723.out 3).trans rfl, (blk_cell BK723.out 4).trans rfl, (bcl_ HB.out hw727_0 :), (bcl_ HB.out hw727_1 :), (bcl_ HB.out hw727_2 :), (bcl_ HB.out hw727_3 :)⟩ (fun hHeld => ?_)
       clear hK K
       refine norm_ (a' := ?_) ?_ ?_
       rotate_left
       ·show Act.put _ (some 25) _ = _
        simp only [aq_]
        rfl
       refine pup_ (i := 13) (N := some 26) (v := ?_) (a' := ?_) HT_ rfl rfl (by kernel_rfl) (fun _ _ _ h => h) (Or.inl ⟨by rfl, ?_⟩) ?_ ?_
       rotate_left
       ·intro w'
        go_simp
        with_reducible rfl
       rotate_left
       ·simp only [aq_]
        rfl
       refine pup_ (i := 14) (N := some 27) (v := ?_) (a' := ?_) HT_ rfl rfl (by kernel_rfl) (fun _ _ _ h => h) (Or.inl ⟨by rfl, ?_⟩) ?_ ?_
       rotate_left
       ·intro w'
        go_simp
        with_reducible rfl
       rotate_left
       ·simp only [aq_]
        rfl
       refine done_ (done_of HT_.out (by kernel_rfl)) ?_
       try go_wp2
       go_roundg k1
       case measure => have := HK1.out; omega
       case rel => exact ⟨(x3_1), (wrap64 (x4_1 + 1)), (by first | rfl | (simp; done) | (simp [*]; done)), H', ⟨by have := HK1.out; omega⟩, ⟨bR HO_3.out⟩, ⟨bs BK723.out⟩, ⟨by repeat (first | (with_reducible first | exact bw HB.out | refine bset ?_ (by assumption) | apply below_alloc | apply pw_below_drewN | apply below_drew1) | exact HB.out)⟩⟩
      ·replace c9 := Bool.eq_false_iff.mpr c9
       subst c9
       have H1 : (if x3_1.length < 17592186044416 then (spec_l12Waiting.l0 k1 (x3_1 ++ [x4_1]) (wrap64 (x4_1 + 1)) a0_0 a0_1 a0_2 l0_3 l0_4) else (none)) = some r := by rw [if_neg (show ¬ (false = true) by decide)] at H; exact H
       clear H
       have H := H1
       clear H1
       by_cases c13 : x3_1.length < 17592186044416
       ·rw [if_pos c13] at H
        have LMc13 := Aside0.mk c13
        clear c13
        obtain ⟨y729, hy729⟩ : ∃ y_ : List Int, y_ = (x3_1 ++ [x4_1]) := ⟨_, rfl⟩
        replace H : (spec_l12Waiting.l0 k1 y729 (wrap64 (x4_1 + 1)) a0_0 a0_1 a0_2 l0_3 l0_4) = some r := by first | (rw [hy729]; with_reducible exact H) | (have H2_ := (Option.bind_some _ _).symm.trans H; rw [hy729]; with_reducible exact H2_) | (have H2_ := (Option.bind_some _ _).symm.trans H; with_reducible exact H2_) | with_reducible exact H | (rw [hy729]; exact H) | exact H
        have Ny729 := Aside0.mk hy729
        clear hy729
        have H' := Aside0.mk H
        clear H
        have hcz14_0 := b5_0 BK723.out
        have hcz14_1 := b5_1 BK723.out
        have hcz14_2 := b5_2 BK723.out
        have hcz14_3 := b5_3 BK723.out
        have hcz14_4 := b5_4 BK723.out
        have hfz14_0 := blk_frozen BK723.out 0
        have hfz14_1 := blk_frozen BK723.out 1
        have hfz14_2 := blk_frozen BK723.out 2
        have hfz14_3 := blk_frozen BK723.out 3
        have hfz14_4 := blk_frozen BK723.out 4
        try go_wp2
        have n0_ := Aside0.mk (Kd.R_drew HO_3.out)
        have n1_ := Aside0.mk (blk_drew BK723.out)
        have n2_ := Aside0.mk (below_drew1 HB.out)
        clear HO_3
        clear BK723
        clear HB
        have HO_3 := n0_
        have BK723 := n1_
        have HB := n2_
        clear n0_ n1_ n2_
        have p727 : 0 ≤ (x4_1 : Int) := of_decide_eq_true (by first | (with_reducible assumption) | assumption)
        have q727 : x4_1 < (l0_3.length : Int) := of_decide_eq_true (by first | (with_reducible assumption) | assumption)
        obtain ⟨ad727, e727, hx727_0, hx727_1, hx727_2, hx727_3⟩ := at_T137 HR0_3.out x4_1 p727 q727
        have hw727_3 := hx727_3
        have hw727_2 := hx727_2
        have hw727_1 := hx727_1
        have hw727_0 := hx727_0
        cases e727
        replace hx727_0 := (HB.out.cell (World.block_lt_of_cell? w _ hx727_0)).trans hx727_0
        replace hx727_1 := (HB.out.cell (World.block_lt_of_cell? w _ hx727_1)).trans hx727_1
        replace hx727_2 := (HB.out.cell (World.block_lt_of_cell? w _ hx727_2)).trans hx727_2
        replace hx727_3 := (HB.out.cell (World.block_lt_of_cell? w _ hx727_3)).trans hx727_3
        replace p727 := eq_true p727
        replace q727 := eq_true q727
        refine start_ (n := 15) (S := fun w' => w'.cell? ⟨gb723, 0, none⟩ = some (.int .i64 a0_0) ∧ w'.cell? ⟨gb723, 1, none⟩ = some (.int .i64 a0_1) ∧ w'.cell? ⟨gb723, 2, none⟩ = some (.int .i64 a0_2) ∧ w'.cell? ⟨gb723, 3, none⟩ = some (.slice (some ad727) l0_3.length c0_3) ∧ w'.cell? ⟨gb723, 4, none⟩ = some (.slice A0_4 l0_4.length c0_4) ∧ w'.cell? (ad727.add ((x4_1).toNat * 4)) = some (.int .i64 ((rd_T137 l0_3 x4_1).f0)) ∧ w'.cell? ⟨(ad727.add ((x4_1).toNat * 4)).block, (ad727.add ((x4_1).toNat * 4)).off + 1, none⟩ = some (.int .i64 ((rd_T137 l0_3 x4_1).f1)) ∧ w'.cell? ⟨(ad727.add ((x4_1).toNat * 4)).block, (ad727.add ((x4_1).toNat * 4)).off + 2, none⟩ = some (.int .i64 ((rd_T137 l0_3 x4_1).f2)) ∧ w'.cell? ⟨(ad727.add ((x4_1).toNat * 4)).block, (ad727.add ((x4_1).toNat * 4)).off + 3, none⟩ = some (.int .i64 ((rd_T137 l0_3 x4_1).f3))) (ds := []) q101_0 (by kernel_rfl) rfl rfl ⟨(blk_cell BK723.out 0).trans rfl, (blk_cell BK723.out 1).trans rfl, (blk_cell BK723.out 2).trans rfl, (blk_cell BK723.out 3).trans rfl, (blk_cell BK723.out 4).trans rfl, (bcl_ HB.out hw727_0 :), (bcl_ HB.out hw727_1 :), (bcl_ HB.out hw727_2 :), (bcl_ HB.out hw727_3 :)⟩ (fun hHeld => ?_); refine with_tabW spec_l12Waiting.tab5 spec_l12Waiting.bits5 (fun HT_ HW_ => ?_)
        generalize wr.drew = w15 at HO_3 BK723 HB hx727_0 hx727_1 hx727_2 hx727_3 hHeld ⊢
        refine pup_ (i := 0) (N := some 13) (v := ?_) (a' := ?_) HT_ rfl rfl (by kernel_rfl) (fun _ _ _ h => h) (Or.inl ⟨by rfl, ?_⟩) ?_ ?_
        rotate_left
        ·intro w'
         go_simp
         with_reducible rfl
        rotate_left
        ·simp only [aq_]
         rfl
        refine pup_ (i := 2) (N := some 15) (v := ?_) (a' := ?_) HT_ rfl rfl (by kernel_rfl) (fun _ _ _ h => h) (Or.inl ⟨by rfl, ?_⟩) ?_ ?_
        rotate_left
        ·intro w'
         go_simp
         with_reducible rfl
        rotate_left
        ·simp only [aq_]
         rfl
        refine pup_ (i := 6) (N := some 19) (v := ?_) (a' := ?_) HT_ rfl rfl (by kernel_rfl) (fun _ _ _ h => h) (Or.inl ⟨by rfl, ?_⟩) ?_ ?_
        rotate_left
        ·intro w'
         go_simp
         with_reducible rfl
        rotate_left
        ·simp only [aq_]
         rfl
        refine take_ (i := 1) (N := some 14) (v := ?_) (a' := ?_) q101_4 rfl rfl (take_ofW HT_.out HW_.out (by kernel_rfl)) (fun _ _ _ h => h) (Or.inl ⟨by rfl, ?_⟩) hHeld ?_ ?_
        rotate_left
        ·rintro w' ⟨s0, s1, s2, s3, s4, s5, s6, s7, s8⟩
         go_simp
         with_reducible rfl
        rotate_left
        ·simp only [aq_]
         rfl
        refine pup_ (i := 3) (N := some 16) (v := ?_) (a' := ?_) HT_ rfl rfl (by kernel_rfl) (fun _ _ _ h => h) (Or.inl ⟨by rfl, ?_⟩) ?_ ?_
        rotate_left
        ·intro w'
         go_simp
         with_reducible rfl
        rotate_left
        ·simp only [aq_]
         rfl
        refine pup_ (i := 4) (N := some 17) (v := ?_) (a' := ?_) HT_ rfl rfl (by kernel_rfl) (fun _ _ _ h => h) (Or.inl ⟨by rfl, ?_⟩) ?_ ?_
        rotate_left
        ·intro w'
         go_simp
         with_reducible rfl
        rotate_left
        ·simp only [aq_]
         rfl
        refine take_ (i := 5) (N := some 18) (v := ?_) (a' := ?_) q101_7 rfl rfl (take_ofW HT_.out HW_.out (by kernel_rfl)) (fun _ _ _ h => h) (Or.inl ⟨by rfl, ?_⟩) hHeld ?_ ?_
        rotate_left
        ·rintro w' ⟨s0, s1, s2, s3, s4, s5, s6, s7, s8⟩
         go_simp
         with_reducible rfl
        rotate_left
        ·simp only [aq_]
         rfl
        refine take_ (i := 7) (N := some 20) (v := ?_) (a' := ?_) q101_8 rfl rfl (take_ofW HT_.out HW_.out (by kernel_rfl)) (fun _ _ _ h => h) (Or.inl ⟨by rfl, ?_⟩) hHeld ?_ ?_
        rotate_left
        ·rintro w' ⟨s0, s1, s2, s3, s4, s5, s6, s7, s8⟩
         go_simp
         with_reducible rfl
        rotate_left
        ·simp only [aq_]
         rfl
        refine pup_ (i := 8) (N := some 21) (v := ?_) (a' := ?_) HT_ rfl rfl (by kernel_rfl) (fun _ _ _ h => h) (Or.inl ⟨by rfl, ?_⟩) ?_ ?_
        rotate_left
        ·intro w'
         go_simp
         with_reducible rfl
        rotate_left
        ·simp only [aq_]
         rfl
        refine pup_ (i := 9) (N := some 22) (v := ?_) (a' := ?_) HT_ rfl rfl (by kernel_rfl) (fun _ _ _ h => h) (Or.inl ⟨by rfl, ?_⟩) ?_ ?_
        rotate_left
        ·intro w'
         go_simp
         with_reducible rfl
        rotate_left
        ·simp only [aq_]
         rfl
        refine pup_ (i := 11) (N := some 24) (v := ?_) (a' := ?_) HT_ rfl rfl (by kernel_rfl) (fun _ _ _ h => h) (Or.inl ⟨by rfl, ?_⟩) ?_ ?_
        rotate_left
        ·intro w'
         go_simp
         with_reducible rfl
        rotate_left
        ·simp only [aq_]
         rfl
        refine take_ (i := 10) (N := some 23) (v := ?_) (a' := ?_) q101_12 rfl rfl (take_ofW HT_.out HW_.out (by kernel_rfl)) (fun _ _ _ h => h) (Or.inl ⟨by rfl, ?_⟩) hHeld ?_ ?_
        rotate_left
        ·rintro w' ⟨s0, s1, s2, s3, s4, s5, s6, s7, s8⟩
         go_simp
         with_reducible rfl
        rotate_left
        ·simp only [aq_]
         rfl
        refine one_ (i := 12) (N := some 25) q101_13 rfl rfl (one_of HT_.out (by kernel_rfl)) (by decide) (fun K hK => ?_)
        refine goes_ Try.func136 (by kernel_rfl) rfl #[.agg #[.int .i64 a0_0, .int .i64 a0_1, .int .i64 a0_2, .slice (some ad727) l0_3.length c0_3, .slice A0_4 l0_4.length c0_4], .int .i64 x4_1] (by rfl) rfl rfl (by (try simp only [mA_]); first | done | rfl | (simp only [List.length_drop, List.length_take]; rfl)) ?_
        with_reducible refine (spec_l12Task.calls k1 a0_0 a0_1 a0_2 _ _ l0_3 _ _ l0_4 x4_1 false _ ?side1 ?side2 ?side3 ?side4 A8.out).mono ?_
        (case side1 => first | exact bC HR0_3.out HB.out | exact Kd.C_below HR0_3.out HB.out)
        (case side2 => exact HC0_3.out)
        (case side3 => first | exact bC HR0_4.out HB.out | exact Kd.C_below HR0_4.out HB.out)
        (case side4 => exact HC0_4.out)
        rintro e w16 ⟨rfl, hb⟩
        refine ⟨_, rfl, ?_⟩
        have n0_ := Aside0.mk (Kd.R_below (bR HO_3.out) hb)
        have n1_ := Aside0.mk (blk_below (bs BK723.out) hb)
        have n2_ := Aside0.mk (below_step (by repeat (first | (with_reducible first | exact bw HB.out | refine bset ?_ (by assumption) | apply below_alloc | apply pw_below_drewN | apply below_drew1) | exact HB.out)) hb)
        clear HO_3
        clear BK723
        clear HB
        have HO_3 := n0_
        have BK723 := n1_
        have HB := n2_
        clear n0_ n1_ n2_
        (try clear hb)
        (try clear hb2)
        (try clear hk)
        (try clear hi)
        refine hK.out _ _ ⟨(blk_cell BK723.out 0).trans rfl, (blk_cell BK723.out 1).trans rfl, (blk_cell BK723.out 2).trans rfl, (blk_cell BK723.out 3).trans rfl, (blk_cell BK723.out 4).trans rfl, (bcl_ HB.out hw727_0 :), (bcl_ HB.out hw727_1 :), (bcl_ HB.out hw727_2 :), (bcl_ HB.out hw727_3 :)⟩ (fun hHeld => ?_)
        clear hK K
        refine norm_ (a' := ?_) ?_ ?_
        rotate_left
        ·show Act.put _ (some 25) _ = _
         simp only [aq_]
         rfl
        refine pup_ (i := 13) (N := some 26) (v := ?_) (a' := ?_) HT_ rfl rfl (by kernel_rfl) (fun _ _ _ h => h) (Or.inl ⟨by rfl, ?_⟩) ?_ ?_
        rotate_left
        ·intro w'
         go_simp
         with_reducible rfl
        rotate_left
        ·simp only [aq_]
         rfl
        refine pup_ (i := 14) (N := some 27) (v := ?_) (a' := ?_) HT_ rfl rfl (by kernel_rfl) (fun _ _ _ h => h) (Or.inl ⟨by rfl, ?_⟩) ?_ ?_
        rotate_left
        ·intro w'
         go_simp
         with_reducible rfl
        rotate_left
        ·simp only [aq_]
         rfl
        refine done_ (done_of HT_.out (by kernel_rfl)) ?_
        try go_wp2_with (first | ((with_reducible refine gate_builtin (b := .append) (xs := #[.tmp 28, .tmp 30]) rfl ?_); at_builtin; refine Kd.R_append (Kd.int .i64) (w0 := w) w.heap.size rfl (.tmp 28) (.tmp 30) 61 3 (.int .i64 0) 8 rfl Try.underlying61 info3 rfl (by decide) (by omega) u3 x3_1 x4_1 [.int .i64 x4_1] (fun _ => True) (fun _ => False) rfl rfl ?aP (fun _ hk => hk.elim) ?aF ?aO ?aB ?aS ?aL ?_; (case aP => exact rfl); (case aB => exact (by repeat (first | (with_reducible first | exact bw HB.out | refine bset ?_ (by assumption) | apply below_alloc | apply pw_below_drewN | apply below_drew1) | exact HB.out))); (case aF => exact (fun _ _ => trivial)); (case aO => exact (bR HO_3.out)); (case aS => exact (below_size (by repeat (first | (with_reducible first | exact bw HB.out | refine bset ?_ (by assumption) | apply below_alloc | apply pw_below_drewN | apply below_drew1) | exact HB.out)))); (case aL => have := LMc13.out; omega); intro v730 w17 ho hb hg hat; rw [← Ny729.out] at ho; have n0_ := Aside0.mk (blk_grown (bs BK723.out) hg (Kd.R_ne HO_3.out BK723.out (by decide))); have n1_ := Aside0.mk (hb); have n2_ := Aside0.mk (ho); clear BK723; clear HB; clear HO_3; have BK723 := n0_; have HB := n1_; have HO731 := n2_; clear n0_ n1_ n2_; clear ho hb hg hat))
        go_roundg k1
        case measure => have := HK1.out; omega
        case rel => exact ⟨(y729), (wrap64 (x4_1 + 1)), (by first | rfl | (simp; done) | (simp [*]; done)), H', ⟨by have := HK1.out; omega⟩, ⟨bR HO731.out⟩, ⟨bs BK723.out⟩, ⟨by repeat (first | (with_reducible first | exact bw HB.out | refine bset ?_ (by assumption) | apply below_alloc | apply pw_below_drewN | apply below_drew1) | exact HB.out)⟩⟩
       ·rw [if_neg c13] at H
        exact absurd H (by simp)
     ·rw [if_neg c7] at H
      have c7b0 : decide (((rd_T137 l0_3 x4_1).f2) ≤ a0_2) = false := decide_eq_false c7
      clear c7
      have H' := Aside0.mk H
      clear H
      have hcz18_0 := b5_0 BK723.out
      have hcz18_1 := b5_1 BK723.out
      have hcz18_2 := b5_2 BK723.out
      have hcz18_3 := b5_3 BK723.out
      have hcz18_4 := b5_4 BK723.out
      have hfz18_0 := blk_frozen BK723.out 0
      have hfz18_1 := blk_frozen BK723.out 1
      have hfz18_2 := blk_frozen BK723.out 2
      have hfz18_3 := blk_frozen BK723.out 3
      have hfz18_4 := blk_frozen BK723.out 4
      try go_wp2
      have n0_ := Aside0.mk (Kd.R_drew HO_3.out)
      have n1_ := Aside0.mk (blk_drew BK723.out)
      have n2_ := Aside0.mk (below_drew1 HB.out)
      clear HO_3
      clear BK723
      clear HB
      have HO_3 := n0_
      have BK723 := n1_
      have HB := n2_
      clear n0_ n1_ n2_
      have p727 : 0 ≤ (x4_1 : Int) := of_decide_eq_true (by first | (with_reducible assumption) | assumption)
      have q727 : x4_1 < (l0_3.length : Int) := of_decide_eq_true (by first | (with_reducible assumption) | assumption)
      obtain ⟨ad727, e727, hx727_0, hx727_1, hx727_2, hx727_3⟩ := at_T137 HR0_3.out x4_1 p727 q727
      have hw727_3 := hx727_3
      have hw727_2 := hx727_2
      have hw727_1 := hx727_1
      have hw727_0 := hx727_0
      cases e727
      replace hx727_0 := (HB.out.cell (World.block_lt_of_cell? w _ hx727_0)).trans hx727_0
      replace hx727_1 := (HB.out.cell (World.block_lt_of_cell? w _ hx727_1)).trans hx727_1
      replace hx727_2 := (HB.out.cell (World.block_lt_of_cell? w _ hx727_2)).trans hx727_2
      replace hx727_3 := (HB.out.cell (World.block_lt_of_cell? w _ hx727_3)).trans hx727_3
      replace p727 := eq_true p727
      replace q727 := eq_true q727
      refine start_ (n := 15) (S := fun w' => w'.cell? ⟨gb723, 0, none⟩ = some (.int .i64 a0_0) ∧ w'.cell? ⟨gb723, 1, none⟩ = some (.int .i64 a0_1) ∧ w'.cell? ⟨gb723, 2, none⟩ = some (.int .i64 a0_2) ∧ w'.cell? ⟨gb723, 3, none⟩ = some (.slice (some ad727) l0_3.length c0_3) ∧ w'.cell? ⟨gb723, 4, none⟩ = some (.slice A0_4 l0_4.length c0_4) ∧ w'.cell? (ad727.add ((x4_1).toNat * 4)) = some (.int .i64 ((rd_T137 l0_3 x4_1).f0)) ∧ w'.cell? ⟨(ad727.add ((x4_1).toNat * 4)).block, (ad727.add ((x4_1).toNat * 4)).off + 1, none⟩ = some (.int .i64 ((rd_T137 l0_3 x4_1).f1)) ∧ w'.cell? ⟨(ad727.add ((x4_1).toNat * 4)).block, (ad727.add ((x4_1).toNat * 4)).off + 2, none⟩ = some (.int .i64 ((rd_T137 l0_3 x4_1).f2)) ∧ w'.cell? ⟨(ad727.add ((x4_1).toNat * 4)).block, (ad727.add ((x4_1).toNat * 4)).off + 3, none⟩ = some (.int .i64 ((rd_T137 l0_3 x4_1).f3))) (ds := []) q101_0 (by kernel_rfl) rfl rfl ⟨(blk_cell BK723.out 0).trans rfl, (blk_cell BK723.out 1).trans rfl, (blk_cell BK723.out 2).trans rfl, (blk_cell BK723.out 3).trans rfl, (blk_cell BK723.out 4).trans rfl, (bcl_ HB.out hw727_0 :), (bcl_ HB.out hw727_1 :), (bcl_ HB.out hw727_2 :), (bcl_ HB.out hw727_3 :)⟩ (fun hHeld => ?_); refine with_tabW spec_l12Waiting.tab5 spec_l12Waiting.bits5 (fun HT_ HW_ => ?_)
      generalize wr.drew = w19 at HO_3 BK723 HB hx727_0 hx727_1 hx727_2 hx727_3 hHeld ⊢
      refine pup_ (i := 0) (N := some 13) (v := ?_) (a' := ?_) HT_ rfl rfl (by kernel_rfl) (fun _ _ _ h => h) (Or.inl ⟨by rfl, ?_⟩) ?_ ?_
      rotate_left
      ·intro w'
       go_simp
       with_reducible rfl
      rotate_left
      ·simp only [aq_]
       rfl
      refine pup_ (i := 2) (N := some 15) (v := ?_) (a' := ?_) HT_ rfl rfl (by kernel_rfl) (fun _ _ _ h => h) (Or.inl ⟨by rfl, ?_⟩) ?_ ?_
      rotate_left
      ·intro w'
       go_simp
       with_reducible rfl
      rotate_left
      ·simp only [aq_]
       rfl
      refine pup_ (i := 6) (N := some 19) (v := ?_) (a' := ?_) HT_ rfl rfl (by kernel_rfl) (fun _ _ _ h => h) (Or.inl ⟨by rfl, ?_⟩) ?_ ?_
      rotate_left
      ·intro w'
       go_simp
       with_reducible rfl
      rotate_left
      ·simp only [aq_]
       rfl
      refine take_ (i := 1) (N := some 14) (v := ?_) (a' := ?_) q101_4 rfl rfl (take_ofW HT_.out HW_.out (by kernel_rfl)) (fun _ _ _ h => h) (Or.inl ⟨by rfl, ?_⟩) hHeld ?_ ?_
      rotate_left
      ·rintro w' ⟨s0, s1, s2, s3, s4, s5, s6, s7, s8⟩
       go_simp
       with_reducible rfl
      rotate_left
      ·simp only [aq_]
       rfl
      refine pup_ (i := 3) (N := some 16) (v := ?_) (a' := ?_) HT_ rfl rfl (by kernel_rfl) (fun _ _ _ h => h) (Or.inl ⟨by rfl, ?_⟩) ?_ ?_
      rotate_left
      ·intro w'
       go_simp
       with_reducible rfl
      rotate_left
      ·simp only [aq_]
       rfl
      refine pup_ (i := 4) (N := some 17) (v := ?_) (a' := ?_) HT_ rfl rfl (by kernel_rfl) (fun _ _ _ h => h) (Or.inl ⟨by rfl, ?_⟩) ?_ ?_
      rotate_left
      ·intro w'
       go_simp
       with_reducible rfl
      rotate_left
      ·simp only [aq_]
       rfl
      refine take_ (i := 5) (N := some 18) (v := ?_) (a' := ?_) q101_7 rfl rfl (take_ofW HT_.out HW_.out (by kernel_rfl)) (fun _ _ _ h => h) (Or.inl ⟨by rfl, ?_⟩) hHeld ?_ ?_
      rotate_left
      ·rintro w' ⟨s0, s1, s2, s3, s4, s5, s6, s7, s8⟩
       go_simp
       with_reducible rfl
      rotate_left
      ·simp only [aq_]
       rfl
      refine take_ (i := 7) (N := some 20) (v := ?_) (a' := ?_) q101_8 rfl rfl (take_ofW HT_.out HW_.out (by kernel_rfl)) (fun _ _ _ h => h) (Or.inl ⟨by rfl, ?_⟩) hHeld ?_ ?_
      rotate_left
      ·rintro w' ⟨s0, s1, s2, s3, s4, s5, s6, s7, s8⟩
       go_simp
       with_reducible rfl
      rotate_left
      ·simp only [aq_]
       rfl
      refine pup_ (i := 8) (N := some 21) (v := ?_) (a' := ?_) HT_ rfl rfl (by kernel_rfl) (fun _ _ _ h => h) (Or.inl ⟨by rfl, ?_⟩) ?_ ?_
      rotate_left
      ·intro w'
       go_simp
       with_reducible rfl
      rotate_left
      ·simp only [aq_]
       rfl
      refine pup_ (i := 9) (N := some 22) (v := ?_) (a' := ?_) HT_ rfl rfl (by kernel_rfl) (fun _ _ _ h => h) (Or.inl ⟨by rfl, ?_⟩) ?_ ?_
      rotate_left
      ·intro w'
       go_simp
       with_reducible rfl
      rotate_left
      ·simp only [aq_]
       rfl
      refine skp_ HT_ 10 (some 23) rfl rfl (by kernel_rfl) (fun _ _ _ h => h) (by rfl) (by simp only [aq_]; rfl) ?_
      refine skp_ HT_ 11 (some 24) rfl rfl (by kernel_rfl) (fun _ _ _ h => h) (by rfl) (by simp only [aq_]; rfl) ?_
      refine skp_ HT_ 12 (some 25) rfl rfl (by kernel_rfl) (fun _ _ _ h => h) (by rfl) (by simp only [aq_]; rfl) ?_
      refine skp_ HT_ 13 (some 26) rfl rfl (by kernel_rfl) (fun _ _ _ h => h) (by rfl) (by simp only [aq_]; rfl) ?_
      refine pup_ (i := 14) (N := some 27) (v := ?_) (a' := ?_) HT_ rfl rfl (by kernel_rfl) (fun _ _ _ h => h) (Or.inl ⟨by rfl, ?_⟩) ?_ ?_
      rotate_left
      ·intro w'
       go_simp
       with_reducible rfl
      rotate_left
      ·simp only [aq_]
       rfl
      refine done_ (done_of HT_.out (by kernel_rfl)) ?_
      try go_wp2
      go_roundg k1
      case measure => have := HK1.out; omega
      case rel => exact ⟨(x3_1), (wrap64 (x4_1 + 1)), (by first | rfl | (simp; done) | (simp [*]; done)), H', ⟨by have := HK1.out; omega⟩, ⟨bR HO_3.out⟩, ⟨bs BK723.out⟩, ⟨by repeat (first | (with_reducible first | exact bw HB.out | refine bset ?_ (by assumption) | apply below_alloc | apply pw_below_drewN | apply below_drew1) | exact HB.out)⟩⟩
    ·rw [if_neg c6] at H
     exact absurd H (by simp)
   ·rw [if_neg c5] at H
    have c5b0 : decide (x4_1 < (l0_3.length : Int)) = false := decide_eq_false c5
    clear c5
    obtain rfl := Option.some.inj H
    have hcz20_0 := b5_0 BK723.out
    have hcz20_1 := b5_1 BK723.out
    have hcz20_2 := b5_2 BK723.out
    have hcz20_3 := b5_3 BK723.out
    have hcz20_4 := b5_4 BK723.out
    have hfz20_0 := blk_frozen BK723.out 0
    have hfz20_1 := blk_frozen BK723.out 1
    have hfz20_2 := blk_frozen BK723.out 2
    have hfz20_3 := blk_frozen BK723.out 3
    have hfz20_4 := blk_frozen BK723.out 4
    go_wp2
    go_ret
    exact ⟨_, by first | rfl | (simp [errW_none, errW_some] <;> rfl) | (simp [*, errW_none, errW_some] <;> rfl), by (with_reducible repeat (first | apply Kd.R_alloc | apply Kd.R_drewN | apply Kd.R_drew)); exact HO_3.out, by repeat (first | (with_reducible first | exact bw HB.out | refine bset ?_ (by assumption) | apply below_alloc | apply pw_below_drewN | apply below_drew1) | exact HB.out)⟩

/-! ### spec_WaitingJobs: function 46 -/
def spec_WaitingJobs.f (k : Nat) (a0_0 : Int) (a0_1 : Int) (a0_2 : Int) (l0_3 : List (S137)) (l0_4 : List (S135)) : Option (List Int × Bool) := (spec_l12Good.f k a0_0 a0_1 a0_2 l0_3 l0_4).bind fun t733 => (if t733 = true then ((spec_l12Waiting.f k a0_0 a0_1 a0_2 l0_3 l0_4).bind fun t734 => (some (t734, true))) else (some ((([] : List Int)), false)))
theorem spec_WaitingJobs.mono : ∀ a0 a1 a2 a3 a4 k, LeO (spec_WaitingJobs.f k a0 a1 a2 a3 a4) (spec_WaitingJobs.f (k + 1) a0 a1 a2 a3 a4) := by
 intro a0 a1 a2 a3 a4 k
 unfold spec_WaitingJobs.f
 repeat' first
   | (with_reducible exact spec_l12Good.mono _ _ _ _ _ _)
   | (with_reducible exact spec_l12Waiting.mono _ _ _ _ _ _)
   | (with_reducible exact LeO.refl _)
   | (with_reducible exact LeO.none _)
   | (with_reducible refine LeO.ite ?_ ?_)
   | (with_reducible refine LeO.bind ?_ (fun _ => ?_))
   | exact spec_l12Good.mono _ _ _ _ _ _
   | exact spec_l12Waiting.mono _ _ _ _ _ _
   | exact LeO.none _
   | refine LeO.ite ?_ ?_
   | refine LeO.bind ?_ (fun _ => ?_)
set_option maxHeartbeats 8000000 in
set_option maxRecDepth 100000 in
theorem spec_WaitingJobs.calls (k : Nat) (a0_0 : Int) (a0_1 : Int) (a0_2 : Int) (A0_3 : Option Addr) (c0_3 : Nat) (l0_3 : List (S137)) (A0_4 : Option Addr) (c0_4 : Nat) (l0_4 : List (S135)) (r1 : List Int) (r2 : Bool) (w : World) (hr0_3 : Kd.C k137 w A0_3 l0_3.length l0_3) (hc0_3 : l0_3.length ≤ c0_3) (hr0_4 : Kd.C k135 w A0_4 l0_4.length l0_4) (hc0_4 : l0_4.length ≤ c0_4) (h : spec_WaitingJobs.f k a0_0 a0_1 a0_2 l0_3 l0_4 = some (r1, r2)) :
  Calls Try.prog 46 #[.agg #[.int .i64 a0_0, .int .i64 a0_1, .int .i64 a0_2, .slice A0_3 l0_3.length c0_3, .slice A0_4 l0_4.length c0_4]] w fun e w' => ∃ v0_ : Value, e = .returned (.tuple #[v0_, .bool r2]) ∧ Kd.R (Kd.int .i64) 3 w' w.heap.size (fun _ => True) v0_ r1 ∧ Below w.heap.size w w' := by
 have hu25 := Try.underlying25
 have HR0_3 := Aside0.mk hr0_3
 have HC0_3 := Aside0.mk hc0_3
 clear hr0_3 hc0_3
 have HR0_4 := Aside0.mk hr0_4
 have HC0_4 := Aside0.mk hc0_4
 clear hr0_4 hc0_4
 have HB := Aside0.mk (Below.refl w.heap.size w)
 have H : ((spec_l12Good.f k a0_0 a0_1 a0_2 l0_3 l0_4).bind fun t733 => (if t733 = true then ((spec_l12Waiting.f k a0_0 a0_1 a0_2 l0_3 l0_4).bind fun t734 => (some (t734, true))) else (some ((([] : List Int)), false)))) = some (r1, r2) := h
 clear h
 replace H := Option.bind_eq_some_iff.mp H
 obtain ⟨t733, A20, H⟩ := H
 replace H : (if t733 = true then ((spec_l12Waiting.f k a0_0 a0_1 a0_2 l0_3 l0_4).bind fun t734 => (some (t734, true))) else (some ((([] : List Int)), false))) = some (r1, r2) := H
 have A2 := Aside0.mk A20
 clear A20
 by_cases c3 : t733 = true
 ·subst c3
  have H1 : ((spec_l12Waiting.f k a0_0 a0_1 a0_2 l0_3 l0_4).bind fun t734 => (some (t734, true))) = some (r1, r2) := by rw [if_pos rfl] at H; exact H
  clear H
  have H := H1
  clear H1
  replace H := Option.bind_eq_some_iff.mp H
  obtain ⟨t734, A40, H⟩ := H
  replace H : (some (t734, true)) = some (r1, r2) := H
  have A4 := Aside0.mk A40
  clear A40
  simp only [Option.some.injEq, Prod.mk.injEq] at H
  obtain ⟨rfl, rfl⟩ := H
  go_enter Try.func46, Try.ntmps46
  go_wp2_with (first | ((with_reducible refine gate_dst (N := 1) rfl ?_); refine box_event ?hg (N := 1) ?hd (cs := #[.int .i64 a0_0, .int .i64 a0_1, .int .i64 a0_2, .slice A0_3 l0_3.length c0_3, .slice A0_4 l0_4.length c0_4]) (t := 25) ?hr ?_; (case hd => rfl); (case hg => rfl); (case hr => first | (go_simp; done) | (go_simp; rfl)); intro gb732 hg w5 hbox hb; have n0_ := Aside0.mk (below_step (bw HB.out) hb); have n1_ := Aside0.mk (hbox); have n2_ := ge_ hg HB.out; have n3_ := ge_ hg HB.out; clear HB; have HB := n0_; have BK732 := n1_; have GW732 := n2_; have GE732 := n3_; clear n0_ n1_ n2_ n3_; clear hb hbox hg; have hcz6_0 := b5_0 BK732.out; have hcz6_1 := b5_1 BK732.out; have hcz6_2 := b5_2 BK732.out; have hcz6_3 := b5_3 BK732.out; have hcz6_4 := b5_4 BK732.out; have hfz6_0 := blk_frozen BK732.out 0; have hfz6_1 := blk_frozen BK732.out 1; have hfz6_2 := blk_frozen BK732.out 2; have hfz6_3 := blk_frozen BK732.out 3; have hfz6_4 := blk_frozen BK732.out 4) | ((with_reducible refine gate_callee (f := 76) rfl ?_); refine goesL_ (some 5) rfl rfl Try.func76 (by kernel_rfl) rfl #[.agg #[.int .i64 a0_0, .int .i64 a0_1, .int .i64 a0_2, .slice A0_3 l0_3.length c0_3, .slice A0_4 l0_4.length c0_4]] rfl (by (try simp only [mA_]); first | done | rfl | (simp only [List.length_drop, List.length_take]; rfl)) ?_; (with_reducible refine (spec_l12Good.calls k a0_0 a0_1 a0_2 _ _ l0_3 _ _ l0_4 true _ ?side1 ?side2 ?side3 ?side4 A2.out).mono ?_); (case side1 => first | exact bC HR0_3.out HB.out | exact Kd.C_below HR0_3.out HB.out); (case side2 => exact HC0_3.out); (case side3 => first | exact bC HR0_4.out HB.out | exact Kd.C_below HR0_4.out HB.out); (case side4 => exact HC0_4.out); rintro e w7 ⟨rfl, hb⟩; refine ⟨_, rfl, ?_⟩; have n0_ := Aside0.mk (blk_below (bs BK732.out) hb); have n1_ := Aside0.mk (below_step (by repeat (first | (with_reducible first | exact bw HB.out | refine bset ?_ (by assumption) | apply below_alloc | apply pw_below_drewN | apply below_drew1) | exact HB.out)) hb); clear BK732; clear HB; have BK732 := n0_; have HB := n1_; clear n0_ n1_; (try clear hb); (try clear hb2); (try clear hk); (try clear hi); have hcz8_0 := b5_0 BK732.out; have hcz8_1 := b5_1 BK732.out; have hcz8_2 := b5_2 BK732.out; have hcz8_3 := b5_3 BK732.out; have hcz8_4 := b5_4 BK732.out; have hfz8_0 := blk_frozen BK732.out 0; have hfz8_1 := blk_frozen BK732.out 1; have hfz8_2 := blk_frozen BK732.out 2; have hfz8_3 := blk_frozen BK732.out 3; have hfz8_4 := blk_frozen BK732.out 4) | ((with_reducible refine gate_callee (f := 101) rfl ?_); refine goesL_ (some 9) rfl rfl Try.func101 (by kernel_rfl) rfl #[.agg #[.int .i64 a0_0, .int .i64 a0_1, .int .i64 a0_2, .slice A0_3 l0_3.length c0_3, .slice A0_4 l0_4.length c0_4]] rfl (by (try simp only [mA_]); first | done | rfl | (simp only [List.length_drop, List.length_take]; rfl)) ?_; (with_reducible refine (spec_l12Waiting.calls k a0_0 a0_1 a0_2 _ _ l0_3 _ _ l0_4 t734 _ ?side1 ?side2 ?side3 ?side4 A4.out).mono ?_); (case side1 => first | exact bC HR0_3.out HB.out | exact Kd.C_below HR0_3.out HB.out); (case side2 => exact HC0_3.out); (case side3 => first | exact bC HR0_4.out HB.out | exact Kd.C_below HR0_4.out HB.out); (case side4 => exact HC0_4.out); rintro e w9 ⟨v735, rfl, ho0, hb⟩; refine ⟨_, rfl, ?_⟩; have n0_ := Aside0.mk (Kd.R_lower ho0 (below_size (by repeat (first | (with_reducible first | exact bw HB.out | refine bset ?_ (by assumption) | apply below_alloc | apply pw_below_drewN | apply below_drew1) | exact HB.out)))); have n1_ := Aside0.mk (blk_below (bs BK732.out) hb); have n2_ := Aside0.mk (below_step (by repeat (first | (with_reducible first | exact bw HB.out | refine bset ?_ (by assumption) | apply below_alloc | apply pw_below_drewN | apply below_drew1) | exact HB.out)) hb); clear BK732; clear HB; have HO736 := n0_; have BK732 := n1_; have HB := n2_; clear n0_ n1_ n2_; (try clear hb); (try clear hb2); (try clear hk); (try clear hi); (try clear ho0)))
  go_ret2
  exact ⟨_, by first | rfl | (simp [errW_none, errW_some] <;> rfl) | (simp [*, errW_none, errW_some] <;> rfl), by (with_reducible repeat (first | apply Kd.R_alloc | apply Kd.R_drewN | apply Kd.R_drew)); exact HO736.out, by repeat (first | (with_reducible first | exact bw HB.out | refine bset ?_ (by assumption) | apply below_alloc | apply pw_below_drewN | apply below_drew1) | exact HB.out)⟩
 ·replace c3 := Bool.eq_false_iff.mpr c3
  subst c3
  have H1 : (some ((([] : List Int)), false)) = some (r1, r2) := by rw [if_neg (show ¬ (false = true) by decide)] at H; exact H
  clear H
  have H := H1
  clear H1
  obtain ⟨y737, hy737⟩ : ∃ y_ : List Int, y_ = (([] : List Int)) := ⟨_, rfl⟩
  replace H : (some (y737, false)) = some (r1, r2) := by first | (rw [hy737]; with_reducible exact H) | (have H2_ := (Option.bind_some _ _).symm.trans H; rw [hy737]; with_reducible exact H2_) | (have H2_ := (Option.bind_some _ _).symm.trans H; with_reducible exact H2_) | with_reducible exact H | (rw [hy737]; exact H) | exact H
  have Ny737 := Aside0.mk hy737
  clear hy737
  simp only [Option.some.injEq, Prod.mk.injEq] at H
  obtain ⟨rfl, rfl⟩ := H
  go_enter Try.func46, Try.ntmps46
  go_wp2_with (first | ((with_reducible refine gate_dst (N := 1) rfl ?_); refine box_event ?hg (N := 1) ?hd (cs := #[.int .i64 a0_0, .int .i64 a0_1, .int .i64 a0_2, .slice A0_3 l0_3.length c0_3, .slice A0_4 l0_4.length c0_4]) (t := 25) ?hr ?_; (case hd => rfl); (case hg => rfl); (case hr => first | (go_simp; done) | (go_simp; rfl)); intro gb732 hg w10 hbox hb; have n0_ := Aside0.mk (below_step (bw HB.out) hb); have n1_ := Aside0.mk (hbox); have n2_ := ge_ hg HB.out; have n3_ := ge_ hg HB.out; clear HB; have HB := n0_; have BK732 := n1_; have GW732 := n2_; have GE732 := n3_; clear n0_ n1_ n2_ n3_; clear hb hbox hg; have hcz11_0 := b5_0 BK732.out; have hcz11_1 := b5_1 BK732.out; have hcz11_2 := b5_2 BK732.out; have hcz11_3 := b5_3 BK732.out; have hcz11_4 := b5_4 BK732.out; have hfz11_0 := blk_frozen BK732.out 0; have hfz11_1 := blk_frozen BK732.out 1; have hfz11_2 := blk_frozen BK732.out 2; have hfz11_3 := blk_frozen BK732.out 3; have hfz11_4 := blk_frozen BK732.out 4) | ((with_reducible refine gate_callee (f := 76) rfl ?_); refine goesL_ (some 5) rfl rfl Try.func76 (by kernel_rfl) rfl #[.agg #[.int .i64 a0_0, .int .i64 a0_1, .int .i64 a0_2, .slice A0_3 l0_3.length c0_3, .slice A0_4 l0_4.length c0_4]] rfl (by (try simp only [mA_]); first | done | rfl | (simp only [List.length_drop, List.length_take]; rfl)) ?_; (with_reducible refine (spec_l12Good.calls k a0_0 a0_1 a0_2 _ _ l0_3 _ _ l0_4 false _ ?side1 ?side2 ?side3 ?side4 A2.out).mono ?_); (case side1 => first | exact bC HR0_3.out HB.out | exact Kd.C_below HR0_3.out HB.out); (case side2 => exact HC0_3.out); (case side3 => first | exact bC HR0_4.out HB.out | exact Kd.C_below HR0_4.out HB.out); (case side4 => exact HC0_4.out); rintro e w12 ⟨rfl, hb⟩; refine ⟨_, rfl, ?_⟩; have n0_ := Aside0.mk (blk_below (bs BK732.out) hb); have n1_ := Aside0.mk (below_step (by repeat (first | (with_reducible first | exact bw HB.out | refine bset ?_ (by assumption) | apply below_alloc | apply pw_below_drewN | apply below_drew1) | exact HB.out)) hb); clear BK732; clear HB; have BK732 := n0_; have HB := n1_; clear n0_ n1_; (try clear hb); (try clear hb2); (try clear hk); (try clear hi)) | ((with_reducible refine gate_dst (N := 7) rfl ?_); refine Kd.R_lit (Kd.int .i64) _ 3 ?hg (N := 7) ?hd (xs := ([] : List Int)) (inner := []) (ok := fun _ => True) (okp := fun _ => True) ?hr ?hp (fun _ hk => hk) trivial (Below.refl _ _) (Nat.le_refl _) (by simp) ?_; (case hd => rfl); (case hg => rfl); (case hr => first | (go_simp; done) | (go_simp; rfl)); (case hp => exact (Reps.none _ _)); intro v738 w13 ho14 hb hg_ hnew_; clear hg_ hnew_; (first | rw [← Ny737.out] at ho14 | (simp only [Int.reduceToNat] at ho14; rw [← Ny737.out] at ho14)); have n0_ := Aside0.mk (Kd.R_lower ho14 (below_size (by repeat (first | (with_reducible first | exact bw HB.out | refine bset ?_ (by assumption) | apply below_alloc | apply pw_below_drewN | apply below_drew1) | exact HB.out)))); have n1_ := Aside0.mk (blk_below (bs BK732.out) hb); have n2_ := Aside0.mk (below_step (by repeat (first | (with_reducible first | exact bw HB.out | refine bset ?_ (by assumption) | apply below_alloc | apply pw_below_drewN | apply below_drew1) | exact HB.out)) hb); clear BK732; clear HB; have HO739 := n0_; have BK732 := n1_; have HB := n2_; clear n0_ n1_ n2_; clear hb ho14))
  go_ret2
  exact ⟨_, by first | rfl | (simp [errW_none, errW_some] <;> rfl) | (simp [*, errW_none, errW_some] <;> rfl), by (with_reducible repeat (first | apply Kd.R_alloc | apply Kd.R_drewN | apply Kd.R_drew)); exact HO739.out, by repeat (first | (with_reducible first | exact bw HB.out | refine bset ?_ (by assumption) | apply below_alloc | apply pw_below_drewN | apply below_drew1) | exact HB.out)⟩

/-! ### impl_Dispatcher_has: function 137 -/
def impl_Dispatcher_has.l0 : Nat → Int → List (S135) → Int → Int → Option (Bool)
 | 0, _, _, _, _ => none
 | k + 1, x1, x8, x9, x10 => if x10 < x9 then (if 0 ≤ x10 then (if x10 < (x8.length : Int) then (if ((rd_T135 x8 x10).f0) = x1 then (some true) else (impl_Dispatcher_has.l0 k x1 x8 x9 (wrap64 (x10 + 1)))) else (none)) else (none)) else (some false)
def impl_Dispatcher_has.f (k : Nat) (a0_0 : Int) (a0_1 : Int) (a0_2 : Int) (l0_3 : List (S137)) (l0_4 : List (S135)) (a1 : Int) : Option (Bool) := impl_Dispatcher_has.l0 k a1 l0_4 (l0_4.length : Int) 0
theorem impl_Dispatcher_has.mono_l : ∀ k, (∀ y0 y1 y2 y3, LeO (impl_Dispatcher_has.l0 k y0 y1 y2 y3) (impl_Dispatcher_has.l0 (k + 1) y0 y1 y2 y3))
 | 0 => fun _ _ _ _ r h => by simp [impl_Dispatcher_has.l0] at h
 | k + 1 => by
  have ih0 := impl_Dispatcher_has.mono_l k
  ·intro y0 y1 y2 y3
   unfold impl_Dispatcher_has.l0
   repeat' first
   | (with_reducible exact ih0 _ _ _ _)
   | (with_reducible exact LeO.refl _)
   | (with_reducible exact LeO.none _)
   | (with_reducible refine LeO.ite ?_ ?_)
   | (with_reducible refine LeO.bind ?_ (fun _ => ?_))
   | exact ih0 _ _ _ _
   | exact LeO.none _
   | refine LeO.ite ?_ ?_
   | refine LeO.bind ?_ (fun _ => ?_)
theorem impl_Dispatcher_has.mono : ∀ a0 a1 a2 a3 a4 a5 k, LeO (impl_Dispatcher_has.f k a0 a1 a2 a3 a4 a5) (impl_Dispatcher_has.f (k + 1) a0 a1 a2 a3 a4 a5) := by
 intro a0 a1 a2 a3 a4 a5 k
 have ih0 := impl_Dispatcher_has.mono_l k
 unfold impl_Dispatcher_has.f
 repeat' first
   | (with_reducible exact ih0 _ _ _ _)
   | (with_reducible exact LeO.refl _)
   | (with_reducible exact LeO.none _)
   | (with_reducible refine LeO.ite ?_ ?_)
   | (with_reducible refine LeO.bind ?_ (fun _ => ?_))
   | exact ih0 _ _ _ _
   | exact LeO.none _
   | refine LeO.ite ?_ ?_
   | refine LeO.bind ?_ (fun _ => ?_)
set_option maxHeartbeats 8000000 in
set_option maxRecDepth 100000 in
theorem impl_Dispatcher_has.calls (k : Nat) (a0_0 : Int) (a0_1 : Int) (a0_2 : Int) (A0_3 : Option Addr) (c0_3 : Nat) (l0_3 : List (S137)) (A0_4 : Option Addr) (c0_4 : Nat) (l0_4 : List (S135)) (a1 : Int) (r : Bool) (w : World) (hr0_3 : Kd.C k137 w A0_3 l0_3.length l0_3) (hc0_3 : l0_3.length ≤ c0_3) (hr0_4 : Kd.C k135 w A0_4 l0_4.length l0_4) (hc0_4 : l0_4.length ≤ c0_4) (h : impl_Dispatcher_has.f k a0_0 a0_1 a0_2 l0_3 l0_4 a1 = some r) :
  Calls Try.prog 137 #[.agg #[.int .i64 a0_0, .int .i64 a0_1, .int .i64 a0_2, .slice A0_3 l0_3.length c0_3, .slice A0_4 l0_4.length c0_4], .int .i64 a1] w fun e w' => e = .returned (.bool r) ∧ Below w.heap.size w w' := by
 have hu25 := Try.underlying25
 have hu135 := Try.underlying135
 have HR0_3 := Aside0.mk hr0_3
 have HC0_3 := Aside0.mk hc0_3
 clear hr0_3 hc0_3
 have HR0_4 := Aside0.mk hr0_4
 have HC0_4 := Aside0.mk hc0_4
 clear hr0_4 hc0_4
 have HB := Aside0.mk (Below.refl w.heap.size w)
 have H : (impl_Dispatcher_has.l0 k a1 l0_4 (l0_4.length : Int) 0) = some r := h
 clear h
 have H' := Aside0.mk H
 clear H
 go_enter Try.func137, Try.ntmps137
 go_wp2_with (first | ((with_reducible refine gate_dst (N := 2) rfl ?_); refine box_event ?hg (N := 2) ?hd (cs := #[.int .i64 a0_0, .int .i64 a0_1, .int .i64 a0_2, .slice A0_3 l0_3.length c0_3, .slice A0_4 l0_4.length c0_4]) (t := 25) ?hr ?_; (case hd => rfl); (case hg => rfl); (case hr => first | (go_simp; done) | (go_simp; rfl)); intro gb740 hg w3 hbox hb; have n0_ := Aside0.mk (below_step (bw HB.out) hb); have n1_ := Aside0.mk (hbox); have n2_ := ge_ hg HB.out; have n3_ := ge_ hg HB.out; clear HB; have HB := n0_; have BK740 := n1_; have GW740 := n2_; have GE740 := n3_; clear n0_ n1_ n2_ n3_; clear hb hbox hg; have hcz4_0 := b5_0 BK740.out; have hcz4_1 := b5_1 BK740.out; have hcz4_2 := b5_2 BK740.out; have hcz4_3 := b5_3 BK740.out; have hcz4_4 := b5_4 BK740.out; have hfz4_0 := blk_frozen BK740.out 0; have hfz4_1 := blk_frozen BK740.out 1; have hfz4_2 := blk_frozen BK740.out 2; have hfz4_3 := blk_frozen BK740.out 3; have hfz4_4 := blk_frozen BK740.out 4))
 go_loopg [10] k (fun kq v10 w' => ∃ (x10_1 : Int), v10 = .int .i64 x10_1 ∧ Aside0 (impl_Dispatcher_has.l0 kq a1 l0_4 (l0_4.length : Int) x10_1 = some r) ∧ Aside0 (kq ≤ k) ∧ Aside0 (w'.heap[gb740]? = some (.cells #[.int .i64 a0_0, .int .i64 a0_1, .int .i64 a0_2, (.slice A0_3 l0_3.length c0_3), (.slice A0_4 l0_4.length c0_4)] 25 (0, 0))) ∧ Aside0 (Below w.heap.size w w'))
 case atStart => exact ⟨(0), (by first | rfl | (simp; done) | (simp [*]; done)), H', ⟨Nat.le_refl _⟩, ⟨bs BK740.out⟩, ⟨by repeat (first | (with_reducible first | exact bw HB.out | refine bset ?_ (by assumption) | apply below_alloc | apply pw_below_drewN | apply below_drew1) | exact HB.out)⟩⟩
 case round =>
  clear H'
  try clear c1
  try clear p2
  try clear hcz4_0
  try clear hcz4_1
  try clear hcz4_2
  try clear hcz4_3
  try clear hcz4_4
  try clear hfz4_0
  try clear hfz4_1
  try clear hfz4_2
  try clear hfz4_3
  try clear hfz4_4
  obtain ⟨x10_1, rfl, HA, HK1, BK740, HB⟩ := hrel
  cases gk with
  | zero => exact absurd HA.out (by simp [impl_Dispatcher_has.l0])
  | succ k1 =>
   have H := HA.out
   clear HA
   simp only [impl_Dispatcher_has.l0] at H
   by_cases c5 : x10_1 < (l0_4.length : Int)
   ·rw [if_pos c5] at H
    have c5b0 : decide (x10_1 < (l0_4.length : Int)) = true := decide_eq_true c5
    clear c5
    by_cases c6 : 0 ≤ x10_1
    ·rw [if_pos c6] at H
     have c6b0 : decide (0 ≤ x10_1) = true := decide_eq_true c6
     clear c6
     by_cases c7 : x10_1 < (l0_4.length : Int)
     ·rw [if_pos c7] at H
      have c7b0 : decide (x10_1 < (l0_4.length : Int)) = true := decide_eq_true c7
      clear c7
      by_cases c8 : ((rd_T135 l0_4 x10_1).f0) = a1
      ·rw [if_pos c8] at H
       have c8b0 : (((rd_T135 l0_4 x10_1).f0) == a1) = true := beq_iff_eq.mpr c8
       have c8b1 : (((rd_T135 l0_4 x10_1).f0) != a1) = false := bne_eq_false_iff_eq.mpr c8
       clear c8
       obtain rfl := Option.some.inj H
       have p741 : 0 ≤ (x10_1 : Int) := of_decide_eq_true (by first | (with_reducible assumption) | assumption)
       have q741 : x10_1 < (l0_4.length : Int) := of_decide_eq_true (by first | (with_reducible assumption) | assumption)
       obtain ⟨ad741, e741, hx741_0, hx741_1, hx741_2⟩ := at_T135 HR0_4.out x10_1 p741 q741
       cases e741
       replace hx741_0 := (HB.out.cell (World.block_lt_of_cell? w _ hx741_0)).trans hx741_0
       replace hx741_1 := (HB.out.cell (World.block_lt_of_cell? w _ hx741_1)).trans hx741_1
       replace hx741_2 := (HB.out.cell (World.block_lt_of_cell? w _ hx741_2)).trans hx741_2
       replace p741 := eq_true p741
       replace q741 := eq_true q741
       go_wp2_with (first | ((with_reducible refine gate_dst (N := 6) rfl ?_); refine box_event ?hg (N := 6) ?hd (cs := #[.int .i64 0, .int .i64 0, .int .i64 0]) (t := 135) ?hr ?_; (case hd => rfl); (case hg => rfl); (case hr => first | (go_simp; done) | (go_simp; rfl)); intro gb742 hg w9 hbox hb; have n0_ := Aside0.mk (blk_below (bs BK740.out) hb); have n1_ := Aside0.mk (below_step (by repeat (first | (with_reducible first | exact bw HB.out | refine bset ?_ (by assumption) | apply below_alloc | apply pw_below_drewN | apply below_drew1) | exact HB.out)) hb); have n2_ := Aside0.mk (hbox); have n3_ := Aside0.mk ((by rw [hg]; exact (below_size (by repeat (first | (with_reducible first | exact bw HB.out | refine bset ?_ (by assumption) | apply below_alloc | apply pw_below_drewN | apply below_drew1) | exact HB.out))) : w.heap.size ≤ gb742)); have n4_ := Aside0.mk ((by rw [hg]; exact (below_size (by repeat (first | (with_reducible first | exact bw HB.out | refine bset ?_ (by assumption) | apply below_alloc | apply pw_below_drewN | apply below_drew1) | exact HB.out))) : w.heap.size ≤ gb742)); have n5_ := ne_ hg BK740.out; have n6_ := en_ hg BK740.out; clear BK740; clear HB; have BK740 := n0_; have HB := n1_; have BK742 := n2_; have GW742 := n3_; have GE742 := n4_; have NB740_742 := n5_; have NB742_740 := n6_; clear n0_ n1_ n2_ n3_ n4_ n5_ n6_; clear hb hbox hg; have hnb10 := NB742_740.out; have hnc10 := NB740_742.out; have hcz11_0 := b3_0 BK742.out; have hcz11_1 := b3_1 BK742.out; have hcz11_2 := b3_2 BK742.out; have hfz11_0 := blk_frozen BK742.out 0; have hfz11_1 := blk_frozen BK742.out 1; have hfz11_2 := blk_frozen BK742.out 2))
       go_ret
       exact ⟨by first | rfl | (simp [errW_none, errW_some] <;> rfl) | (simp [*, errW_none, errW_some] <;> rfl), by repeat (first | (with_reducible first | exact bw HB.out | refine bset ?_ (by assumption) | apply below_alloc | apply pw_below_drewN | apply below_drew1) | exact HB.out)⟩
      ·rw [if_neg c8] at H
       have c8b0 : (((rd_T135 l0_4 x10_1).f0) == a1) = false := beq_eq_false_iff_ne.mpr c8
       have c8b1 : (((rd_T135 l0_4 x10_1).f0) != a1) = true := bne_iff_ne.mpr c8
       have H' := Aside0.mk H
       clear H
       have p741 : 0 ≤ (x10_1 : Int) := of_decide_eq_true (by first | (with_reducible assumption) | assumption)
       have q741 : x10_1 < (l0_4.length : Int) := of_decide_eq_true (by first | (with_reducible assumption) | assumption)
       obtain ⟨ad741, e741, hx741_0, hx741_1, hx741_2⟩ := at_T135 HR0_4.out x10_1 p741 q741
       cases e741
       replace hx741_0 := (HB.out.cell (World.block_lt_of_cell? w _ hx741_0)).trans hx741_0
       replace hx741_1 := (HB.out.cell (World.block_lt_of_cell? w _ hx741_1)).trans hx741_1
       replace hx741_2 := (HB.out.cell (World.block_lt_of_cell? w _ hx741_2)).trans hx741_2
       replace p741 := eq_true p741
       replace q741 := eq_true q741
       go_wp2_with (first | ((with_reducible refine gate_dst (N := 6) rfl ?_); refine box_event ?hg (N := 6) ?hd (cs := #[.int .i64 0, .int .i64 0, .int .i64 0]) (t := 135) ?hr ?_; (case hd => rfl); (case hg => rfl); (case hr => first | (go_simp; done) | (go_simp; rfl)); intro gb742 hg w12 hbox hb; have n0_ := Aside0.mk (blk_below (bs BK740.out) hb); have n1_ := Aside0.mk (below_step (by repeat (first | (with_reducible first | exact bw HB.out | refine bset ?_ (by assumption) | apply below_alloc | apply pw_below_drewN | apply below_drew1) | exact HB.out)) hb); have n2_ := Aside0.mk (hbox); have n3_ := Aside0.mk ((by rw [hg]; exact (below_size (by repeat (first | (with_reducible first | exact bw HB.out | refine bset ?_ (by assumption) | apply below_alloc | apply pw_below_drewN | apply below_drew1) | exact HB.out))) : w.heap.size ≤ gb742)); have n4_ := Aside0.mk ((by rw [hg]; exact (below_size (by repeat (first | (with_reducible first | exact bw HB.out | refine bset ?_ (by assumption) | apply below_alloc | apply pw_below_drewN | apply below_drew1) | exact HB.out))) : w.heap.size ≤ gb742)); have n5_ := ne_ hg BK740.out; have n6_ := en_ hg BK740.out; clear BK740; clear HB; have BK740 := n0_; have HB := n1_; have BK742 := n2_; have GW742 := n3_; have GE742 := n4_; have NB740_742 := n5_; have NB742_740 := n6_; clear n0_ n1_ n2_ n3_ n4_ n5_ n6_; clear hb hbox hg; have hnb13 := NB742_740.out; have hnc13 := NB740_742.out; have hcz14_0 := b3_0 BK742.out; have hcz14_1 := b3_1 BK742.out; have hcz14_2 := b3_2 BK742.out; have hfz14_0 := blk_frozen BK742.out 0; have hfz14_1 := blk_frozen BK742.out 1; have hfz14_2 := blk_frozen BK742.out 2))
       go_roundg k1
       case measure => have := HK1.out; omega
       case rel => exact ⟨(wrap64 (x10_1 + 1)), (by first | rfl | (simp; done) | (simp [*]; done)), H', ⟨by have := HK1.out; omega⟩, ⟨by (with_reducible repeat (first | refine blk_drewN ?_ _ | refine blk_drew ?_ | refine blk_alloc ?_ _)); refine blk_far ?_ NB740_742.out _; (with_reducible repeat (first | refine blk_drewN ?_ _ | refine blk_drew ?_ | refine blk_alloc ?_ _)); refine blk_far ?_ NB740_742.out _; (with_reducible repeat (first | refine blk_drewN ?_ _ | refine blk_drew ?_ | refine blk_alloc ?_ _)); refine blk_far ?_ NB740_742.out _; exact bs BK740.out⟩, ⟨by repeat (first | (with_reducible first | exact bw HB.out | refine bset ?_ (by assumption) | apply below_alloc | apply pw_below_drewN | apply below_drew1) | exact HB.out)⟩⟩
     ·rw [if_neg c7] at H
      exact absurd H (by simp)
    ·rw [if_neg c6] at H
     exact absurd H (by simp)
   ·rw [if_neg c5] at H
    have c5b0 : decide (x10_1 < (l0_4.length : Int)) = false := decide_eq_false c5
    clear c5
    obtain rfl := Option.some.inj H
    go_wp2
    go_ret
    exact ⟨by first | rfl | (simp [errW_none, errW_some] <;> rfl) | (simp [*, errW_none, errW_some] <;> rfl), by repeat (first | (with_reducible first | exact bw HB.out | refine bset ?_ (by assumption) | apply below_alloc | apply pw_below_drewN | apply below_drew1) | exact HB.out)⟩

/-! ### impl_Dispatcher_waiting: function 102 -/
def impl_Dispatcher_waiting.l0 : Nat → List Int → List (S137) → Int → Int → Int → Int → Int → List (S137) → List (S135) → Option (List Int)
 | 0, _, _, _, _, _, _, _, _, _ => none
 | k + 1, x3, x7, x8, x9, x744000, x744001, x744002, x744003, x744004 => if x9 < x8 then (if 0 ≤ x9 then (if x9 < (x7.length : Int) then ((impl_Dispatcher_has.f k x744000 x744001 x744002 x744003 x744004 x9).bind fun t746 => (if t746 = true then (impl_Dispatcher_waiting.l0 k x3 x7 x8 (wrap64 (x9 + 1)) x744000 x744001 x744002 x744003 x744004) else (if ((rd_T137 x7 x9).f2) ≤ x744002 then (if x3.length < 17592186044416 then (impl_Dispatcher_waiting.l0 k (x3 ++ [x9]) x7 x8 (wrap64 (x9 + 1)) x744000 x744001 x744002 x744003 x744004) else (none)) else (impl_Dispatcher_waiting.l0 k x3 x7 x8 (wrap64 (x9 + 1)) x744000 x744001 x744002 x744003 x744004)))) else (none)) else (none)) else (some x3)
def impl_Dispatcher_waiting.f (k : Nat) (a0_0 : Int) (a0_1 : Int) (a0_2 : Int) (l0_3 : List (S137)) (l0_4 : List (S135)) : Option (List Int) := impl_Dispatcher_waiting.l0 k ([] : List Int) l0_3 (l0_3.length : Int) 0 a0_0 a0_1 a0_2 l0_3 l0_4
theorem impl_Dispatcher_waiting.mono_l : ∀ k, (∀ y0 y1 y2 y3 y4 y5 y6 y7 y8, LeO (impl_Dispatcher_waiting.l0 k y0 y1 y2 y3 y4 y5 y6 y7 y8) (impl_Dispatcher_waiting.l0 (k + 1) y0 y1 y2 y3 y4 y5 y6 y7 y8))
 | 0 => fun _ _ _ _ _ _ _ _ _ r h => by simp [impl_Dispatcher_waiting.l0] at h
 | k + 1 => by
  have ih0 := impl_Dispatcher_waiting.mono_l k
  ·intro y0 y1 y2 y3 y4 y5 y6 y7 y8
   unfold impl_Dispatcher_waiting.l0
   repeat' first
   | (with_reducible exact ih0 _ _ _ _ _ _ _ _ _)
   | (with_reducible exact impl_Dispatcher_has.mono _ _ _ _ _ _ _)
   | (with_reducible exact LeO.refl _)
   | (with_reducible exact LeO.none _)
   | (with_reducible refine LeO.ite ?_ ?_)
   | (with_reducible refine LeO.bind ?_ (fun _ => ?_))
   | exact ih0 _ _ _ _ _ _ _ _ _
   | exact impl_Dispatcher_has.mono _ _ _ _ _ _ _
   | exact LeO.none _
   | refine LeO.ite ?_ ?_
   | refine LeO.bind ?_ (fun _ => ?_)
theorem impl_Dispatcher_waiting.mono : ∀ a0 a1 a2 a3 a4 k, LeO (impl_Dispatcher_waiting.f k a0 a1 a2 a3 a4) (impl_Dispatcher_waiting.f (k + 1) a0 a1 a2 a3 a4) := by
 intro a0 a1 a2 a3 a4 k
 have ih0 := impl_Dispatcher_waiting.mono_l k
 unfold impl_Dispatcher_waiting.f
 repeat' first
   | (with_reducible exact ih0 _ _ _ _ _ _ _ _ _)
   | (with_reducible exact impl_Dispatcher_has.mono _ _ _ _ _ _ _)
   | (with_reducible exact LeO.refl _)
   | (with_reducible exact LeO.none _)
   | (with_reducible refine LeO.ite ?_ ?_)
   | (with_reducible refine LeO.bind ?_ (fun _ => ?_))
   | exact ih0 _ _ _ _ _ _ _ _ _
   | exact impl_Dispatcher_has.mono _ _ _ _ _ _ _
   | exact LeO.none _
   | refine LeO.ite ?_ ?_
   | refine LeO.bind ?_ (fun _ => ?_)
set_option maxHeartbeats 8000000 in
set_option maxRecDepth 100000 in
theorem impl_Dispatcher_waiting.calls (k : Nat) (a0_0 : Int) (a0_1 : Int) (a0_2 : Int) (A0_3 : Option Addr) (c0_3 : Nat) (l0_3 : List (S137)) (A0_4 : Option Addr) (c0_4 : Nat) (l0_4 : List (S135)) (r : List Int) (w : World) (hr0_3 : Kd.C k137 w A0_3 l0_3.length l0_3) (hc0_3 : l0_3.length ≤ c0_3) (hr0_4 : Kd.C k135 w A0_4 l0_4.length l0_4) (hc0_4 : l0_4.length ≤ c0_4) (h : impl_Dispatcher_waiting.f k a0_0 a0_1 a0_2 l0_3 l0_4 = some r) :
  Calls Try.prog 102 #[.agg #[.int .i64 a0_0, .int .i64 a0_1, .int .i64 a0_2, .slice A0_3 l0_3.length c0_3, .slice A0_4 l0_4.length c0_4]] w fun e w' => ∃ v0_ : Value, e = .returned (v0_) ∧ Kd.R (Kd.int .i64) 3 w' w.heap.size (fun _ => True) v0_ r ∧ Below w.heap.size w w' := by
 have hu25 := Try.underlying25
 have hu137 := Try.underlying137
 have HR0_3 := Aside0.mk hr0_3
 have HC0_3 := Aside0.mk hc0_3
 clear hr0_3 hc0_3
 have HR0_4 := Aside0.mk hr0_4
 have HC0_4 := Aside0.mk hc0_4
 clear hr0_4 hc0_4
 have HB := Aside0.mk (Below.refl w.heap.size w)
 have H : (impl_Dispatcher_waiting.l0 k ([] : List Int) l0_3 (l0_3.length : Int) 0 a0_0 a0_1 a0_2 l0_3 l0_4) = some r := h
 clear h
 have H' := Aside0.mk H
 clear H
 go_enter Try.func102, Try.ntmps102
 go_wp2_with (first | ((with_reducible refine gate_dst (N := 1) rfl ?_); refine box_event ?hg (N := 1) ?hd (cs := #[.int .i64 a0_0, .int .i64 a0_1, .int .i64 a0_2, .slice A0_3 l0_3.length c0_3, .slice A0_4 l0_4.length c0_4]) (t := 25) ?hr ?_; (case hd => rfl); (case hg => rfl); (case hr => first | (go_simp; done) | (go_simp; rfl)); intro gb743 hg w2 hbox hb; have n0_ := Aside0.mk (below_step (bw HB.out) hb); have n1_ := Aside0.mk (hbox); have n2_ := ge_ hg HB.out; have n3_ := ge_ hg HB.out; clear HB; have HB := n0_; have BK743 := n1_; have GW743 := n2_; have GE743 := n3_; clear n0_ n1_ n2_ n3_; clear hb hbox hg; have hcz3_0 := b5_0 BK743.out; have hcz3_1 := b5_1 BK743.out; have hcz3_2 := b5_2 BK743.out; have hcz3_3 := b5_3 BK743.out; have hcz3_4 := b5_4 BK743.out; have hfz3_0 := blk_frozen BK743.out 0; have hfz3_1 := blk_frozen BK743.out 1; have hfz3_2 := blk_frozen BK743.out 2; have hfz3_3 := blk_frozen BK743.out 3; have hfz3_4 := blk_frozen BK743.out 4))
 go_loopg [3, 9] k (fun kq v3 v9 w' => ∃ (x3_1 : List Int) (x9_1 : Int), v9 = .int .i64 x9_1 ∧ Aside0 (impl_Dispatcher_waiting.l0 kq x3_1 l0_3 (l0_3.length : Int) x9_1 a0_0 a0_1 a0_2 l0_3 l0_4 = some r) ∧ Aside0 (kq ≤ k) ∧ Aside0 (Kd.R (Kd.int .i64) 3 w' w.heap.size (fun _ => True) v3 x3_1) ∧ Aside0 (w'.heap[gb743]? = some (.cells #[.int .i64 a0_0, .int .i64 a0_1, .int .i64 a0_2, (.slice A0_3 l0_3.length c0_3), (.slice A0_4 l0_4.length c0_4)] 25 (0, 0))) ∧ Aside0 (Below w.heap.size w w'))
 case atStart => exact ⟨(([] : List Int)), (0), (by first | rfl | (simp; done) | (simp [*]; done)), H', ⟨Nat.le_refl _⟩, ⟨by first | exact Kd.R_nil _ _ _ _ _ | exact Kd.N_nil _ _ _ _ _ | exact Kd.V_nil _ _ _ _ _ | exact Kd.Q_nil _ _ _ _ _ | exact Kd.S_nil _ _ _ _ _⟩, ⟨bs BK743.out⟩, ⟨by repeat (first | (with_reducible first | exact bw HB.out | refine bset ?_ (by assumption) | apply below_alloc | apply pw_below_drewN | apply below_drew1) | exact HB.out)⟩⟩
 case round =>
  clear H'
  try clear c1
  try clear p2
  try clear hcz3_0
  try clear hcz3_1
  try clear hcz3_2
  try clear hcz3_3
  try clear hcz3_4
  try clear hfz3_0
  try clear hfz3_1
  try clear hfz3_2
  try clear hfz3_3
  try clear hfz3_4
  obtain ⟨x3_1, x9_1, rfl, HA, HK1, HO_3, BK743, HB⟩ := hrel
  cases gk with
  | zero => exact absurd HA.out (by simp [impl_Dispatcher_waiting.l0])
  | succ k1 =>
   have H := HA.out
   clear HA
   simp only [impl_Dispatcher_waiting.l0] at H
   by_cases c4 : x9_1 < (l0_3.length : Int)
   ·rw [if_pos c4] at H
    have c4b0 : decide (x9_1 < (l0_3.length : Int)) = true := decide_eq_true c4
    clear c4
    by_cases c5 : 0 ≤ x9_1
    ·rw [if_pos c5] at H
     have c5b0 : decide (0 ≤ x9_1) = true := decide_eq_true c5
     clear c5
     by_cases c6 : x9_1 < (l0_3.length : Int)
     ·rw [if_pos c6] at H
      have c6b0 : decide (x9_1 < (l0_3.length : Int)) = true := decide_eq_true c6
      clear c6
      replace H := Option.bind_eq_some_iff.mp H
      obtain ⟨t746, A70, H⟩ := H
      replace H : (if t746 = true then (impl_Dispatcher_waiting.l0 k1 x3_1 l0_3 (l0_3.length : Int) (wrap64 (x9_1 + 1)) a0_0 a0_1 a0_2 l0_3 l0_4) else (if ((rd_T137 l0_3 x9_1).f2) ≤ a0_2 then (if x3_1.length < 17592186044416 then (impl_Dispatcher_waiting.l0 k1 (x3_1 ++ [x9_1]) l0_3 (l0_3.length : Int) (wrap64 (x9_1 + 1)) a0_0 a0_1 a0_2 l0_3 l0_4) else (none)) else (impl_Dispatcher_waiting.l0 k1 x3_1 l0_3 (l0_3.length : Int) (wrap64 (x9_1 + 1)) a0_0 a0_1 a0_2 l0_3 l0_4))) = some r := H
      have A7 := Aside0.mk A70
      clear A70
      by_cases c8 : t746 = true
      ·subst c8
       have H1 : (impl_Dispatcher_waiting.l0 k1 x3_1 l0_3 (l0_3.length : Int) (wrap64 (x9_1 + 1)) a0_0 a0_1 a0_2 l0_3 l0_4) = some r := by rw [if_pos rfl] at H; exact H
       clear H
       have H := H1
       clear H1
       have H' := Aside0.mk H
       clear H
       have p744 : 0 ≤ (x9_1 : Int) := of_decide_eq_true (by first | (with_reducible assumption) | assumption)
       have q744 : x9_1 < (l0_3.length : Int) := of_decide_eq_true (by first | (with_reducible assumption) | assumption)
       obtain ⟨ad744, e744, hx744_0, hx744_1, hx744_2, hx744_3⟩ := at_T137 HR0_3.out x9_1 p744 q744
       cases e744
       replace hx744_0 := (HB.out.cell (World.block_lt_of_cell? w _ hx744_0)).trans hx744_0
       replace hx744_1 := (HB.out.cell (World.block_lt_of_cell? w _ hx744_1)).trans hx744_1
       replace hx744_2 := (HB.out.cell (World.block_lt_of_cell? w _ hx744_2)).trans hx744_2
       replace hx744_3 := (HB.out.cell (World.block_lt_of_cell? w _ hx744_3)).trans hx744_3
       replace p744 := eq_true p744
       replace q744 := eq_true q744
       go_wp2_with (first | ((with_reducible refine gate_dst (N := 5) rfl ?_); refine box_event ?hg (N := 5) ?hd (cs := #[.int .i64 0, .int .i64 0, .int .i64 0, .int .i64 0]) (t := 137) ?hr ?_; (case hd => rfl); (case hg => rfl); (case hr => first | (go_simp; done) | (go_simp; rfl)); intro gb745 hg w9 hbox hb; have n0_ := Aside0.mk (Kd.R_below (bR HO_3.out) hb); have n1_ := Aside0.mk (blk_below (bs BK743.out) hb); have n2_ := Aside0.mk (below_step (by repeat (first | (with_reducible first | exact bw HB.out | refine bset ?_ (by assumption) | apply below_alloc | apply pw_below_drewN | apply below_drew1) | exact HB.out)) hb); have n3_ := Aside0.mk (hbox); have n4_ := Aside0.mk ((by rw [hg]; exact (below_size (by repeat (first | (with_reducible first | exact bw HB.out | refine bset ?_ (by assumption) | apply below_alloc | apply pw_below_drewN | apply below_drew1) | exact HB.out))) : w.heap.size ≤ gb745)); have n5_ := Aside0.mk ((by rw [hg]; exact (below_size (by repeat (first | (with_reducible first | exact bw HB.out | refine bset ?_ (by assumption) | apply below_alloc | apply pw_below_drewN | apply below_drew1) | exact HB.out))) : w.heap.size ≤ gb745)); have n6_ := ne_ hg BK743.out; have n7_ := en_ hg BK743.out; clear HO_3; clear BK743; clear HB; have HO_3 := n0_; have BK743 := n1_; have HB := n2_; have BK745 := n3_; have GW745 := n4_; have GE745 := n5_; have NB743_745 := n6_; have NB745_743 := n7_; clear n0_ n1_ n2_ n3_ n4_ n5_ n6_ n7_; clear hb hbox hg; have hnb10 := NB745_743.out; have hnc10 := NB743_745.out; have hcz11_0 := b4_0 BK745.out; have hcz11_1 := b4_1 BK745.out; have hcz11_2 := b4_2 BK745.out; have hcz11_3 := b4_3 BK745.out; have hfz11_0 := blk_frozen BK745.out 0; have hfz11_1 := blk_frozen BK745.out 1; have hfz11_2 := blk_frozen BK745.out 2; have hfz11_3 := blk_frozen BK745.out 3; have hcz12_0 := b5_0 BK743.out; have hcz12_1 := b5_1 BK743.out; have hcz12_2 := b5_2 BK743.out; have hcz12_3 := b5_3 BK743.out; have hcz12_4 := b5_4 BK743.out; have hfz12_0 := blk_frozen BK743.out 0; have hfz12_1 := blk_frozen BK743.out 1; have hfz12_2 := blk_frozen BK743.out 2; have hfz12_3 := blk_frozen BK743.out 3; have hfz12_4 := blk_frozen BK743.out 4) | ((with_reducible refine gate_callee (f := 137) rfl ?_); refine goesL_ (some 16) rfl rfl Try.func137 (by kernel_rfl) rfl #[.agg #[.int .i64 a0_0, .int .i64 a0_1, .int .i64 a0_2, .slice (some ad744) l0_3.length c0_3, .slice A0_4 l0_4.length c0_4], .int .i64 x9_1] rfl (by (try simp only [mA_]); first | done | rfl | (simp only [List.length_drop, List.length_take]; rfl)) ?_; (with_reducible refine (impl_Dispatcher_has.calls k1 a0_0 a0_1 a0_2 _ _ l0_3 _ _ l0_4 x9_1 true _ ?side1 ?side2 ?side3 ?side4 A7.out).mono ?_); (case side1 => exact Kd.C_below HR0_3.out (by repeat (first | (with_reducible first | exact bw HB.out | refine bset ?_ (by assumption) | apply below_alloc | apply pw_below_drewN | apply below_drew1) | exact HB.out))); (case side2 => exact HC0_3.out); (case side3 => exact Kd.C_below HR0_4.out (by repeat (first | (with_reducible first | exact bw HB.out | refine bset ?_ (by assumption) | apply below_alloc | apply pw_below_drewN | apply below_drew1) | exact HB.out))); (case side4 => exact HC0_4.out); rintro e w13 ⟨rfl, hb⟩; refine ⟨_, rfl, ?_⟩; have n0_ := Aside0.mk (Kd.R_below (by (with_reducible repeat (first | apply Kd.R_alloc | apply Kd.R_drewN | apply Kd.R_drew)); exact (Kd.R_mono (Kd.R_far (p := ⟨gb745, 3, none⟩) (Kd.R_far (p := ⟨gb745, 2, none⟩) (Kd.R_far (p := ⟨gb745, 1, none⟩) (Kd.R_far (p := ⟨gb745, 0, none⟩) (Kd.R_types HO_3.out BK745.out (by decide)) (fun _ hk => hk.2) (.int .i64 ((rd_T137 l0_3 x9_1).f0))) (fun _ hk => hk.2) (.int .i64 ((rd_T137 l0_3 x9_1).f1))) (fun _ hk => hk.2) (.int .i64 ((rd_T137 l0_3 x9_1).f2))) (fun _ hk => hk.2) (.int .i64 ((rd_T137 l0_3 x9_1).f3))) (fun _ h_ => h_.1))) hb); have n1_ := Aside0.mk (blk_below (g := gb743) (o := .cells #[.int .i64 a0_0, .int .i64 a0_1, .int .i64 a0_2, .slice (some ad744) l0_3.length c0_3, .slice A0_4 l0_4.length c0_4] 25 (0, 0)) (by (with_reducible repeat (first | refine blk_drewN ?_ _ | refine blk_drew ?_ | refine blk_alloc ?_ _)); refine blk_far ?_ NB743_745.out _; (with_reducible repeat (first | refine blk_drewN ?_ _ | refine blk_drew ?_ | refine blk_alloc ?_ _)); refine blk_far ?_ NB743_745.out _; (with_reducible repeat (first | refine blk_drewN ?_ _ | refine blk_drew ?_ | refine blk_alloc ?_ _)); refine blk_far ?_ NB743_745.out _; (with_reducible repeat (first | refine blk_drewN ?_ _ | refine blk_drew ?_ | refine blk_alloc ?_ _)); refine blk_far ?_ NB743_745.out _; exact bs BK743.out) hb); have n2_ := Aside0.mk (blk_below (g := gb745) (o := .cells #[.int .i64 ((rd_T137 l0_3 x9_1).f0), .int .i64 ((rd_T137 l0_3 x9_1).f1), .int .i64 ((rd_T137 l0_3 x9_1).f2), .int .i64 ((rd_T137 l0_3 x9_1).f3)] 137 (0, 0)) (by (with_reducible repeat (first | refine blk_drewN ?_ _ | refine blk_drew ?_ | refine blk_alloc ?_ _)); refine blk_put (cs := #[.int .i64 ((rd_T137 l0_3 x9_1).f0), .int .i64 ((rd_T137 l0_3 x9_1).f1), .int .i64 ((rd_T137 l0_3 x9_1).f2), .int .i64 0]) ?_ 3 _ rfl; (with_reducible repeat (first | refine blk_drewN ?_ _ | refine blk_drew ?_ | refine blk_alloc ?_ _)); refine blk_put (cs := #[.int .i64 ((rd_T137 l0_3 x9_1).f0), .int .i64 ((rd_T137 l0_3 x9_1).f1), .int .i64 0, .int .i64 0]) ?_ 2 _ rfl; (with_reducible repeat (first | refine blk_drewN ?_ _ | refine blk_drew ?_ | refine blk_alloc ?_ _)); refine blk_put (cs := #[.int .i64 ((rd_T137 l0_3 x9_1).f0), .int .i64 0, .int .i64 0, .int .i64 0]) ?_ 1 _ rfl; (with_reducible repeat (first | refine blk_drewN ?_ _ | refine blk_drew ?_ | refine blk_alloc ?_ _)); refine blk_put (cs := #[.int .i64 0, .int .i64 0, .int .i64 0, .int .i64 0]) ?_ 0 _ rfl; exact bs BK745.out) hb); have n3_ := Aside0.mk (below_step (by repeat (first | (with_reducible first | exact bw HB.out | refine bset ?_ (by assumption) | apply below_alloc | apply pw_below_drewN | apply below_drew1) | exact HB.out)) hb); clear HO_3; clear BK743; clear BK745; clear HB; have HO_3 := n0_; have BK743 := n1_; have BK745 := n2_; have HB := n3_; clear n0_ n1_ n2_ n3_; (try clear hb); (try clear hb2); (try clear hk); (try clear hi)))
       go_roundg k1
       case measure => have := HK1.out; omega
       case rel => exact ⟨(x3_1), (wrap64 (x9_1 + 1)), (by first | rfl | (simp; done) | (simp [*]; done)), H', ⟨by have := HK1.out; omega⟩, ⟨bR HO_3.out⟩, ⟨bs BK743.out⟩, ⟨by repeat (first | (with_reducible first | exact bw HB.out | refine bset ?_ (by assumption) | apply below_alloc | apply pw_below_drewN | apply below_drew1) | exact HB.out)⟩⟩
      ·replace c8 := Bool.eq_false_iff.mpr c8
       subst c8
       have H1 : (if ((rd_T137 l0_3 x9_1).f2) ≤ a0_2 then (if x3_1.length < 17592186044416 then (impl_Dispatcher_waiting.l0 k1 (x3_1 ++ [x9_1]) l0_3 (l0_3.length : Int) (wrap64 (x9_1 + 1)) a0_0 a0_1 a0_2 l0_3 l0_4) else (none)) else (impl_Dispatcher_waiting.l0 k1 x3_1 l0_3 (l0_3.length : Int) (wrap64 (x9_1 + 1)) a0_0 a0_1 a0_2 l0_3 l0_4)) = some r := by rw [if_neg (show ¬ (false = true) by decide)] at H; exact H
       clear H
       have H := H1
       clear H1
       by_cases c14 : ((rd_T137 l0_3 x9_1).f2) ≤ a0_2
       ·rw [if_pos c14] at H
        have c14b0 : decide (((rd_T137 l0_3 x9_1).f2) ≤ a0_2) = true := decide_eq_true c14
        clear c14
        by_cases c15 : x3_1.length < 17592186044416
        ·rw [if_pos c15] at H
         have LMc15 := Aside0.mk c15
         clear c15
         obtain ⟨y747, hy747⟩ : ∃ y_ : List Int, y_ = (x3_1 ++ [x9_1]) := ⟨_, rfl⟩
         replace H : (impl_Dispatcher_waiting.l0 k1 y747 l0_3 (l0_3.length : Int) (wrap64 (x9_1 + 1)) a0_0 a0_1 a0_2 l0_3 l0_4) = some r := by first | (rw [hy747]; with_reducible exact H) | (have H2_ := (Option.bind_some _ _).symm.trans H; rw [hy747]; with_reducible exact H2_) | (have H2_ := (Option.bind_some _ _).symm.trans H; with_reducible exact H2_) | with_reducible exact H | (rw [hy747]; exact H) | exact H
         have Ny747 := Aside0.mk hy747
         clear hy747
         have H' := Aside0.mk H
         clear H
         have p744 : 0 ≤ (x9_1 : Int) := of_decide_eq_true (by first | (with_reducible assumption) | assumption)
         have q744 : x9_1 < (l0_3.length : Int) := of_decide_eq_true (by first | (with_reducible assumption) | assumption)
         obtain ⟨ad744, e744, hx744_0, hx744_1, hx744_2, hx744_3⟩ := at_T137 HR0_3.out x9_1 p744 q744
         cases e744
         replace hx744_0 := (HB.out.cell (World.block_lt_of_cell? w _ hx744_0)).trans hx744_0
         replace hx744_1 := (HB.out.cell (World.block_lt_of_cell? w _ hx744_1)).trans hx744_1
         replace hx744_2 := (HB.out.cell (World.block_lt_of_cell? w _ hx744_2)).trans hx744_2
         replace hx744_3 := (HB.out.cell (World.block_lt_of_cell? w _ hx744_3)).trans hx744_3
         replace p744 := eq_true p744
         replace q744 := eq_true q744
         go_wp2_with (first | ((with_reducible refine gate_dst (N := 5) rfl ?_); refine box_event ?hg (N := 5) ?hd (cs := #[.int .i64 0, .int .i64 0, .int .i64 0, .int .i64 0]) (t := 137) ?hr ?_; (case hd => rfl); (case hg => rfl); (case hr => first | (go_simp; done) | (go_simp; rfl)); intro gb745 hg w16 hbox hb; have n0_ := Aside0.mk (Kd.R_below (bR HO_3.out) hb); have n1_ := Aside0.mk (blk_below (bs BK743.out) hb); have n2_ := Aside0.mk (below_step (by repeat (first | (with_reducible first | exact bw HB.out | refine bset ?_ (by assumption) | apply below_alloc | apply pw_below_drewN | apply below_drew1) | exact HB.out)) hb); have n3_ := Aside0.mk (hbox); have n4_ := Aside0.mk ((by rw [hg]; exact (below_size (by repeat (first | (with_reducible first | exact bw HB.out | refine bset ?_ (by assumption) | apply below_alloc | apply pw_below_drewN | apply below_drew1) | exact HB.out))) : w.heap.size ≤ gb745)); have n5_ := Aside0.mk ((by rw [hg]; exact (below_size (by repeat (first | (with_reducible first | exact bw HB.out | refine bset ?_ (by assumption) | apply below_alloc | apply pw_below_drewN | apply below_drew1) | exact HB.out))) : w.heap.size ≤ gb745)); have n6_ := ne_ hg BK743.out; have n7_ := en_ hg BK743.out; clear HO_3; clear BK743; clear HB; have HO_3 := n0_; have BK743 := n1_; have HB := n2_; have BK745 := n3_; have GW745 := n4_; have GE745 := n5_; have NB743_745 := n6_; have NB745_743 := n7_; clear n0_ n1_ n2_ n3_ n4_ n5_ n6_ n7_; clear hb hbox hg; have hnb17 := NB745_743.out; have hnc17 := NB743_745.out; have hcz18_0 := b4_0 BK745.out; have hcz18_1 := b4_1 BK745.out; have hcz18_2 := b4_2 BK745.out; have hcz18_3 := b4_3 BK745.out; have hfz18_0 := blk_frozen BK745.out 0; have hfz18_1 := blk_frozen BK745.out 1; have hfz18_2 := blk_frozen BK745.out 2; have hfz18_3 := blk_frozen BK745.out 3; have hcz19_0 := b5_0 BK743.out; have hcz19_1 := b5_1 BK743.out; have hcz19_2 := b5_2 BK743.out; have hcz19_3 := b5_3 BK743.out; have hcz19_4 := b5_4 BK743.out; have hfz19_0 := blk_frozen BK743.out 0; have hfz19_1 := blk_frozen BK743.out 1; have hfz19_2 := blk_frozen BK743.out 2; have hfz19_3 := blk_frozen BK743.out 3; have hfz19_4 := blk_frozen BK743.out 4) | ((with_reducible refine gate_callee (f := 137) rfl ?_); refine goesL_ (some 16) rfl rfl Try.func137 (by kernel_rfl) rfl #[.agg #[.int .i64 a0_0, .int .i64 a0_1, .int .i64 a0_2, .slice (some ad744) l0_3.length c0_3, .slice A0_4 l0_4.length c0_4], .int .i64 x9_1] rfl (by (try simp only [mA_]); first | done | rfl | (simp only [List.length_drop, List.length_take]; rfl)) ?_; (with_reducible refine (impl_Dispatcher_has.calls k1 a0_0 a0_1 a0_2 _ _ l0_3 _ _ l0_4 x9_1 false _ ?side1 ?side2 ?side3 ?side4 A7.out).mono ?_); (case side1 => exact Kd.C_below HR0_3.out (by repeat (first | (with_reducible first | exact bw HB.out | refine bset ?_ (by assumption) | apply below_alloc | apply pw_below_drewN | apply below_drew1) | exact HB.out))); (case side2 => exact HC0_3.out); (case side3 => exact Kd.C_below HR0_4.out (by repeat (first | (with_reducible first | exact bw HB.out | refine bset ?_ (by assumption) | apply below_alloc | apply pw_below_drewN | apply below_drew1) | exact HB.out))); (case side4 => exact HC0_4.out); rintro e w20 ⟨rfl, hb⟩; refine ⟨_, rfl, ?_⟩; have n0_ := Aside0.mk (Kd.R_below (by (with_reducible repeat (first | apply Kd.R_alloc | apply Kd.R_drewN | apply Kd.R_drew)); exact (Kd.R_mono (Kd.R_far (p := ⟨gb745, 3, none⟩) (Kd.R_far (p := ⟨gb745, 2, none⟩) (Kd.R_far (p := ⟨gb745, 1, none⟩) (Kd.R_far (p := ⟨gb745, 0, none⟩) (Kd.R_types HO_3.out BK745.out (by decide)) (fun _ hk => hk.2) (.int .i64 ((rd_T137 l0_3 x9_1).f0))) (fun _ hk => hk.2) (.int .i64 ((rd_T137 l0_3 x9_1).f1))) (fun _ hk => hk.2) (.int .i64 ((rd_T137 l0_3 x9_1).f2))) (fun _ hk => hk.2) (.int .i64 ((rd_T137 l0_3 x9_1).f3))) (fun _ h_ => h_.1))) hb); have n1_ := Aside0.mk (blk_below (g := gb743) (o := .cells #[.int .i64 a0_0, .int .i64 a0_1, .int .i64 a0_2, .slice (some ad744) l0_3.length c0_3, .slice A0_4 l0_4.length c0_4] 25 (0, 0)) (by (with_reducible repeat (first | refine blk_drewN ?_ _ | refine blk_drew ?_ | refine blk_alloc ?_ _)); refine blk_far ?_ NB743_745.out _; (with_reducible repeat (first | refine blk_drewN ?_ _ | refine blk_drew ?_ | refine blk_alloc ?_ _)); refine blk_far ?_ NB743_745.out _; (with_reducible repeat (first | refine blk_drewN ?_ _ | refine blk_drew ?_ | refine blk_alloc ?_ _)); refine blk_far ?_ NB743_745.out _; (with_reducible repeat (first | refine blk_drewN ?_ _ | refine blk_drew ?_ | refine blk_alloc ?_ _)); refine blk_far ?_ NB743_745.out _; exact bs BK743.out) hb); have n2_ := Aside0.mk (blk_below (g := gb745) (o := .cells #[.int .i64 ((rd_T137 l0_3 x9_1).f0), .int .i64 ((rd_T137 l0_3 x9_1).f1), .int .i64 ((rd_T137 l0_3 x9_1).f2), .int .i64 ((rd_T137 l0_3 x9_1).f3)] 137 (0, 0)) (by (with_reducible repeat (first | refine blk_drewN ?_ _ | refine blk_drew ?_ | refine blk_alloc ?_ _)); refine blk_put (cs := #[.int .i64 ((rd_T137 l0_3 x9_1).f0), .int .i64 ((rd_T137 l0_3 x9_1).f1), .int .i64 ((rd_T137 l0_3 x9_1).f2), .int .i64 0]) ?_ 3 _ rfl; (with_reducible repeat (first | refine blk_drewN ?_ _ | refine blk_drew ?_ | refine blk_alloc ?_ _)); refine blk_put (cs := #[.int .i64 ((rd_T137 l0_3 x9_1).f0), .int .i64 ((rd_T137 l0_3 x9_1).f1), .int .i64 0, .int .i64 0]) ?_ 2 _ rfl; (with_reducible repeat (first | refine blk_drewN ?_ _ | refine blk_drew ?_ | refine blk_alloc ?_ _)); refine blk_put (cs := #[.int .i64 ((rd_T137 l0_3 x9_1).f0), .int .i64 0, .int .i64 0, .int .i64 0]) ?_ 1 _ rfl; (with_reducible repeat (first | refine blk_drewN ?_ _ | refine blk_drew ?_ | refine blk_alloc ?_ _)); refine blk_put (cs := #[.int .i64 0, .int .i64 0, .int .i64 0, .int .i64 0]) ?_ 0 _ rfl; exact bs BK745.out) hb); have n3_ := Aside0.mk (below_step (by repeat (first | (with_reducible first | exact bw HB.out | refine bset ?_ (by assumption) | apply below_alloc | apply pw_below_drewN | apply below_drew1) | exact HB.out)) hb); clear HO_3; clear BK743; clear BK745; clear HB; have HO_3 := n0_; have BK743 := n1_; have BK745 := n2_; have HB := n3_; clear n0_ n1_ n2_ n3_; (try clear hb); (try clear hb2); (try clear hk); (try clear hi); have hcz21_0 := b4_0 BK745.out; have hcz21_1 := b4_1 BK745.out; have hcz21_2 := b4_2 BK745.out; have hcz21_3 := b4_3 BK745.out; have hfz21_0 := blk_frozen BK745.out 0; have hfz21_1 := blk_frozen BK745.out 1; have hfz21_2 := blk_frozen BK745.out 2; have hfz21_3 := blk_frozen BK745.out 3; have hcz22_0 := b5_0 BK743.out; have hcz22_1 := b5_1 BK743.out; have hcz22_2 := b5_2 BK743.out; have hcz22_3 := b5_3 BK743.out; have hcz22_4 := b5_4 BK743.out; have hfz22_0 := blk_frozen BK743.out 0; have hfz22_1 := blk_frozen BK743.out 1; have hfz22_2 := blk_frozen BK743.out 2; have hfz22_3 := blk_frozen BK743.out 3; have hfz22_4 := blk_frozen BK743.out 4) | ((with_reducible refine gate_builtin (b := .append) (xs := #[.tmp 25, .tmp 27]) rfl ?_); at_builtin; refine Kd.R_append (Kd.int .i64) (w0 := w) w.heap.size rfl (.tmp 25) (.tmp 27) 61 3 (.int .i64 0) 8 rfl Try.underlying61 info3 rfl (by decide) (by omega) u3 x3_1 x9_1 [.int .i64 x9_1] (fun _ => True) (fun _ => False) rfl rfl ?aP (fun _ hk => hk.elim) ?aF ?aO ?aB ?aS ?aL ?_; (case aP => exact rfl); (case aB => exact (by repeat (first | (with_reducible first | exact bw HB.out | refine bset ?_ (by assumption) | apply below_alloc | apply pw_below_drewN | apply below_drew1) | exact HB.out))); (case aF => exact (fun _ _ => trivial)); (case aO => exact (bR HO_3.out)); (case aS => exact (below_size (by repeat (first | (with_reducible first | exact bw HB.out | refine bset ?_ (by assumption) | apply below_alloc | apply pw_below_drewN | apply below_drew1) | exact HB.out)))); (case aL => have := LMc15.out; omega); intro v748 w23 ho hb hg hat; rw [← Ny747.out] at ho; have n0_ := Aside0.mk (blk_grown (bs BK743.out) hg (Kd.R_ne HO_3.out BK743.out (by decide))); have n1_ := Aside0.mk (blk_grown (bs BK745.out) hg (Kd.R_ne HO_3.out BK745.out (by decide))); have n2_ := Aside0.mk (hb); have n3_ := Aside0.mk (ho); clear BK743; clear BK745; clear HB; clear HO_3; have BK743 := n0_; have BK745 := n1_; have HB := n2_; have HO749 := n3_; clear n0_ n1_ n2_ n3_; clear ho hb hg hat))
         go_roundg k1
         case measure => have := HK1.out; omega
         case rel => exact ⟨(y747), (wrap64 (x9_1 + 1)), (by first | rfl | (simp; done) | (simp [*]; done)), H', ⟨by have := HK1.out; omega⟩, ⟨bR HO749.out⟩, ⟨bs BK743.out⟩, ⟨by repeat (first | (with_reducible first | exact bw HB.out | refine bset ?_ (by assumption) | apply below_alloc | apply pw_below_drewN | apply below_drew1) | exact HB.out)⟩⟩
        ·rw [if_neg c15] at H
         exact absurd H (by simp)
       ·rw [if_neg c14] at H
        have c14b0 : decide (((rd_T137 l0_3 x9_1).f2) ≤ a0_2) = false := decide_eq_false c14
        clear c14
        have H' := Aside0.mk H
        clear H
        have p744 : 0 ≤ (x9_1 : Int) := of_decide_eq_true (by first | (with_reducible assumption) | assumption)
        have q744 : x9_1 < (l0_3.length : Int) := of_decide_eq_true (by first | (with_reducible assumption) | assumption)
        obtain ⟨ad744, e744, hx744_0, hx744_1, hx744_2, hx744_3⟩ := at_T137 HR0_3.out x9_1 p744 q744
        cases e744
        replace hx744_0 := (HB.out.cell (World.block_lt_of_cell? w _ hx744_0)).trans hx744_0
        replace hx744_1 := (HB.out.cell (World.block_lt_of_cell? w _ hx744_1)).trans hx744_1
        replace hx744_2 := (HB.out.cell (World.block_lt_of_cell? w _ hx744_2)).trans hx744_2
        replace hx744_3 := (HB.out.cell (World.block_lt_of_cell? w _ hx744_3)).trans hx744_3
        replace p744 := eq_true p744
        replace q744 := eq_true q744
        go_wp2_with (first | ((with_reducible refine gate_dst (N := 5) rfl ?_); refine box_event ?hg (N := 5) ?hd (cs := #[.int .i64 0, .int .i64 0, .int .i64 0, .int .i64 0]) (t := 137) ?hr ?_; (case hd => rfl); (case hg => rfl); (case hr => first | (go_simp; done) | (go_simp; rfl)); intro gb745 hg w24 hbox hb; have n0_ := Aside0.mk (Kd.R_below (bR HO_3.out) hb); have n1_ := Aside0.mk (blk_below (bs BK743.out) hb); have n2_ := Aside0.mk (below_step (by repeat (first | (with_reducible first | exact bw HB.out | refine bset ?_ (by assumption) | apply below_alloc | apply pw_below_drewN | apply below_drew1) | exact HB.out)) hb); have n3_ := Aside0.mk (hbox); have n4_ := Aside0.mk ((by rw [hg]; exact (below_size (by repeat (first | (with_reducible first | exact bw HB.out | refine bset ?_ (by assumption) | apply below_alloc | apply pw_below_drewN | apply below_drew1) | exact HB.out))) : w.heap.size ≤ gb745)); have n5_ := Aside0.mk ((by rw [hg]; exact (below_size (by repeat (first | (with_reducible first | exact bw HB.out | refine bset ?_ (by assumption) | apply below_alloc | apply pw_below_drewN | apply below_drew1) | exact HB.out))) : w.heap.size ≤ gb745)); have n6_ := ne_ hg BK743.out; have n7_ := en_ hg BK743.out; clear HO_3; clear BK743; clear HB; have HO_3 := n0_; have BK743 := n1_; have HB := n2_; have BK745 := n3_; have GW745 := n4_; have GE745 := n5_; have NB743_745 := n6_; have NB745_743 := n7_; clear n0_ n1_ n2_ n3_ n4_ n5_ n6_ n7_; clear hb hbox hg; have hnb25 := NB745_743.out; have hnc25 := NB743_745.out; have hcz26_0 := b4_0 BK745.out; have hcz26_1 := b4_1 BK745.out; have hcz26_2 := b4_2 BK745.out; have hcz26_3 := b4_3 BK745.out; have hfz26_0 := blk_frozen BK745.out 0; have hfz26_1 := blk_frozen BK745.out 1; have hfz26_2 := blk_frozen BK745.out 2; have hfz26_3 := blk_frozen BK745.out 3; have hcz27_0 := b5_0 BK743.out; have hcz27_1 := b5_1 BK743.out; have hcz27_2 := b5_2 BK743.out; have hcz27_3 := b5_3 BK743.out; have hcz27_4 := b5_4 BK743.out; have hfz27_0 := blk_frozen BK743.out 0; have hfz27_1 := blk_frozen BK743.out 1; have hfz27_2 := blk_frozen BK743.out 2; have hfz27_3 := blk_frozen BK743.out 3; have hfz27_4 := blk_frozen BK743.out 4) | ((with_reducible refine gate_callee (f := 137) rfl ?_); refine goesL_ (some 16) rfl rfl Try.func137 (by kernel_rfl) rfl #[.agg #[.int .i64 a0_0, .int .i64 a0_1, .int .i64 a0_2, .slice (some ad744) l0_3.length c0_3, .slice A0_4 l0_4.length c0_4], .int .i64 x9_1] rfl (by (try simp only [mA_]); first | done | rfl | (simp only [List.length_drop, List.length_take]; rfl)) ?_; (with_reducible refine (impl_Dispatcher_has.calls k1 a0_0 a0_1 a0_2 _ _ l0_3 _ _ l0_4 x9_1 false _ ?side1 ?side2 ?side3 ?side4 A7.out).mono ?_); (case side1 => exact Kd.C_below HR0_3.out (by repeat (first | (with_reducible first | exact bw HB.out | refine bset ?_ (by assumption) | apply below_alloc | apply pw_below_drewN | apply below_drew1) | exact HB.out))); (case side2 => exact HC0_3.out); (case side3 => exact Kd.C_below HR0_4.out (by repeat (first | (with_reducible first | exact bw HB.out | refine bset ?_ (by assumption) | apply below_alloc | apply pw_below_drewN | apply below_drew1) | exact HB.out))); (case side4 => exact HC0_4.out); rintro e w28 ⟨rfl, hb⟩; refine ⟨_, rfl, ?_⟩; have n0_ := Aside0.mk (Kd.R_below (by (with_reducible repeat (first | apply Kd.R_alloc | apply Kd.R_drewN | apply Kd.R_drew)); exact (Kd.R_mono (Kd.R_far (p := ⟨gb745, 3, none⟩) (Kd.R_far (p := ⟨gb745, 2, none⟩) (Kd.R_far (p := ⟨gb745, 1, none⟩) (Kd.R_far (p := ⟨gb745, 0, none⟩) (Kd.R_types HO_3.out BK745.out (by decide)) (fun _ hk => hk.2) (.int .i64 ((rd_T137 l0_3 x9_1).f0))) (fun _ hk => hk.2) (.int .i64 ((rd_T137 l0_3 x9_1).f1))) (fun _ hk => hk.2) (.int .i64 ((rd_T137 l0_3 x9_1).f2))) (fun _ hk => hk.2) (.int .i64 ((rd_T137 l0_3 x9_1).f3))) (fun _ h_ => h_.1))) hb); have n1_ := Aside0.mk (blk_below (g := gb743) (o := .cells #[.int .i64 a0_0, .int .i64 a0_1, .int .i64 a0_2, .slice (some ad744) l0_3.length c0_3, .slice A0_4 l0_4.length c0_4] 25 (0, 0)) (by (with_reducible repeat (first | refine blk_drewN ?_ _ | refine blk_drew ?_ | refine blk_alloc ?_ _)); refine blk_far ?_ NB743_745.out _; (with_reducible repeat (first | refine blk_drewN ?_ _ | refine blk_drew ?_ | refine blk_alloc ?_ _)); refine blk_far ?_ NB743_745.out _; (with_reducible repeat (first | refine blk_drewN ?_ _ | refine blk_drew ?_ | refine blk_alloc ?_ _)); refine blk_far ?_ NB743_745.out _; (with_reducible repeat (first | refine blk_drewN ?_ _ | refine blk_drew ?_ | refine blk_alloc ?_ _)); refine blk_far ?_ NB743_745.out _; exact bs BK743.out) hb); have n2_ := Aside0.mk (blk_below (g := gb745) (o := .cells #[.int .i64 ((rd_T137 l0_3 x9_1).f0), .int .i64 ((rd_T137 l0_3 x9_1).f1), .int .i64 ((rd_T137 l0_3 x9_1).f2), .int .i64 ((rd_T137 l0_3 x9_1).f3)] 137 (0, 0)) (by (with_reducible repeat (first | refine blk_drewN ?_ _ | refine blk_drew ?_ | refine blk_alloc ?_ _)); refine blk_put (cs := #[.int .i64 ((rd_T137 l0_3 x9_1).f0), .int .i64 ((rd_T137 l0_3 x9_1).f1), .int .i64 ((rd_T137 l0_3 x9_1).f2), .int .i64 0]) ?_ 3 _ rfl; (with_reducible repeat (first | refine blk_drewN ?_ _ | refine blk_drew ?_ | refine blk_alloc ?_ _)); refine blk_put (cs := #[.int .i64 ((rd_T137 l0_3 x9_1).f0), .int .i64 ((rd_T137 l0_3 x9_1).f1), .int .i64 0, .int .i64 0]) ?_ 2 _ rfl; (with_reducible repeat (first | refine blk_drewN ?_ _ | refine blk_drew ?_ | refine blk_alloc ?_ _)); refine blk_put (cs := #[.int .i64 ((rd_T137 l0_3 x9_1).f0), .int .i64 0, .int .i64 0, .int .i64 0]) ?_ 1 _ rfl; (with_reducible repeat (first | refine blk_drewN ?_ _ | refine blk_drew ?_ | refine blk_alloc ?_ _)); refine blk_put (cs := #[.int .i64 0, .int .i64 0, .int .i64 0, .int .i64 0]) ?_ 0 _ rfl; exact bs BK745.out) hb); have n3_ := Aside0.mk (below_step (by repeat (first | (with_reducible first | exact bw HB.out | refine bset ?_ (by assumption) | apply below_alloc | apply pw_below_drewN | apply below_drew1) | exact HB.out)) hb); clear HO_3; clear BK743; clear BK745; clear HB; have HO_3 := n0_; have BK743 := n1_; have BK745 := n2_; have HB := n3_; clear n0_ n1_ n2_ n3_; (try clear hb); (try clear hb2); (try clear hk); (try clear hi); have hcz29_0 := b4_0 BK745.out; have hcz29_1 := b4_1 BK745.out; have hcz29_2 := b4_2 BK745.out; have hcz29_3 := b4_3 BK745.out; have hfz29_0 := blk_frozen BK745.out 0; have hfz29_1 := blk_frozen BK745.out 1; have hfz29_2 := blk_frozen BK745.out 2; have hfz29_3 := blk_frozen BK745.out 3; have hcz30_0 := b5_0 BK743.out; have hcz30_1 := b5_1 BK743.out; have hcz30_2 := b5_2 BK743.out; have hcz30_3 := b5_3 BK743.out; have hcz30_4 := b5_4 BK743.out; have hfz30_0 := blk_frozen BK743.out 0; have hfz30_1 := blk_frozen BK743.out 1; have hfz30_2 := blk_frozen BK743.out 2; have hfz30_3 := blk_frozen BK743.out 3; have hfz30_4 := blk_frozen BK743.out 4))
        go_roundg k1
        case measure => have := HK1.out; omega
        case rel => exact ⟨(x3_1), (wrap64 (x9_1 + 1)), (by first | rfl | (simp; done) | (simp [*]; done)), H', ⟨by have := HK1.out; omega⟩, ⟨bR HO_3.out⟩, ⟨bs BK743.out⟩, ⟨by repeat (first | (with_reducible first | exact bw HB.out | refine bset ?_ (by assumption) | apply below_alloc | apply pw_below_drewN | apply below_drew1) | exact HB.out)⟩⟩
     ·rw [if_neg c6] at H
      exact absurd H (by simp)
    ·rw [if_neg c5] at H
     exact absurd H (by simp)
   ·rw [if_neg c4] at H
    have c4b0 : decide (x9_1 < (l0_3.length : Int)) = false := decide_eq_false c4
    clear c4
    obtain rfl := Option.some.inj H
    go_wp2
    go_ret
    exact ⟨_, by first | rfl | (simp [errW_none, errW_some] <;> rfl) | (simp [*, errW_none, errW_some] <;> rfl), by (with_reducible repeat (first | apply Kd.R_alloc | apply Kd.R_drewN | apply Kd.R_drew)); exact HO_3.out, by repeat (first | (with_reducible first | exact bw HB.out | refine bset ?_ (by assumption) | apply below_alloc | apply pw_below_drewN | apply below_drew1) | exact HB.out)⟩

/-! ### impl_WaitingJobs: function 47 -/
def impl_WaitingJobs.f (k : Nat) (a0_0 : Int) (a0_1 : Int) (a0_2 : Int) (l0_3 : List (S137)) (l0_4 : List (S135)) : Option (List Int × Bool) := (impl_IsDispatcher.f k a0_0 a0_1 a0_2 l0_3 l0_4).bind fun t751 => (if t751 = true then ((impl_Dispatcher_waiting.f k a0_0 a0_1 a0_2 l0_3 l0_4).bind fun t752 => (some (t752, true))) else (some (([] : List Int), false)))
theorem impl_WaitingJobs.mono : ∀ a0 a1 a2 a3 a4 k, LeO (impl_WaitingJobs.f k a0 a1 a2 a3 a4) (impl_WaitingJobs.f (k + 1) a0 a1 a2 a3 a4) := by
 intro a0 a1 a2 a3 a4 k
 unfold impl_WaitingJobs.f
 repeat' first
   | (with_reducible exact impl_Dispatcher_waiting.mono _ _ _ _ _ _)
   | (with_reducible exact impl_IsDispatcher.mono _ _ _ _ _ _)
   | (with_reducible exact LeO.refl _)
   | (with_reducible exact LeO.none _)
   | (with_reducible refine LeO.ite ?_ ?_)
   | (with_reducible refine LeO.bind ?_ (fun _ => ?_))
   | exact impl_Dispatcher_waiting.mono _ _ _ _ _ _
   | exact impl_IsDispatcher.mono _ _ _ _ _ _
   | exact LeO.none _
   | refine LeO.ite ?_ ?_
   | refine LeO.bind ?_ (fun _ => ?_)
set_option maxHeartbeats 8000000 in
set_option maxRecDepth 100000 in
theorem impl_WaitingJobs.calls (k : Nat) (a0_0 : Int) (a0_1 : Int) (a0_2 : Int) (A0_3 : Option Addr) (c0_3 : Nat) (l0_3 : List (S137)) (A0_4 : Option Addr) (c0_4 : Nat) (l0_4 : List (S135)) (r1 : List Int) (r2 : Bool) (w : World) (hr0_3 : Kd.C k137 w A0_3 l0_3.length l0_3) (hc0_3 : l0_3.length ≤ c0_3) (hr0_4 : Kd.C k135 w A0_4 l0_4.length l0_4) (hc0_4 : l0_4.length ≤ c0_4) (h : impl_WaitingJobs.f k a0_0 a0_1 a0_2 l0_3 l0_4 = some (r1, r2)) :
  Calls Try.prog 47 #[.agg #[.int .i64 a0_0, .int .i64 a0_1, .int .i64 a0_2, .slice A0_3 l0_3.length c0_3, .slice A0_4 l0_4.length c0_4]] w fun e w' => ∃ v0_ : Value, e = .returned (.tuple #[v0_, .bool r2]) ∧ Kd.R (Kd.int .i64) 3 w' w.heap.size (fun _ => True) v0_ r1 ∧ Below w.heap.size w w' := by
 have hu25 := Try.underlying25
 have HR0_3 := Aside0.mk hr0_3
 have HC0_3 := Aside0.mk hc0_3
 clear hr0_3 hc0_3
 have HR0_4 := Aside0.mk hr0_4
 have HC0_4 := Aside0.mk hc0_4
 clear hr0_4 hc0_4
 have HB := Aside0.mk (Below.refl w.heap.size w)
 have H : ((impl_IsDispatcher.f k a0_0 a0_1 a0_2 l0_3 l0_4).bind fun t751 => (if t751 = true then ((impl_Dispatcher_waiting.f k a0_0 a0_1 a0_2 l0_3 l0_4).bind fun t752 => (some (t752, true))) else (some (([] : List Int), false)))) = some (r1, r2) := h
 clear h
 replace H := Option.bind_eq_some_iff.mp H
 obtain ⟨t751, A20, H⟩ := H
 replace H : (if t751 = true then ((impl_Dispatcher_waiting.f k a0_0 a0_1 a0_2 l0_3 l0_4).bind fun t752 => (some (t752, true))) else (some (([] : List Int), false))) = some (r1, r2) := H
 have A2 := Aside0.mk A20
 clear A20
 by_cases c3 : t751 = true
 ·subst c3
  have H1 : ((impl_Dispatcher_waiting.f k a0_0 a0_1 a0_2 l0_3 l0_4).bind fun t752 => (some (t752, true))) = some (r1, r2) := by rw [if_pos rfl] at H; exact H
  clear H
  have H := H1
  clear H1
  replace H := Option.bind_eq_some_iff.mp H
  obtain ⟨t752, A40, H⟩ := H
  replace H : (some (t752, true)) = some (r1, r2) := H
  have A4 := Aside0.mk A40
  clear A40
  simp only [Option.some.injEq, Prod.mk.injEq] at H
  obtain ⟨rfl, rfl⟩ := H
  go_enter Try.func47, Try.ntmps47
  go_wp2_with (first | ((with_reducible refine gate_dst (N := 1) rfl ?_); refine box_event ?hg (N := 1) ?hd (cs := #[.int .i64 a0_0, .int .i64 a0_1, .int .i64 a0_2, .slice A0_3 l0_3.length c0_3, .slice A0_4 l0_4.length c0_4]) (t := 25) ?hr ?_; (case hd => rfl); (case hg => rfl); (case hr => first | (go_simp; done) | (go_simp; rfl)); intro gb750 hg w5 hbox hb; have n0_ := Aside0.mk (below_step (bw HB.out) hb); have n1_ := Aside0.mk (hbox); have n2_ := ge_ hg HB.out; have n3_ := ge_ hg HB.out; clear HB; have HB := n0_; have BK750 := n1_; have GW750 := n2_; have GE750 := n3_; clear n0_ n1_ n2_ n3_; clear hb hbox hg; have hcz6_0 := b5_0 BK750.out; have hcz6_1 := b5_1 BK750.out; have hcz6_2 := b5_2 BK750.out; have hcz6_3 := b5_3 BK750.out; have hcz6_4 := b5_4 BK750.out; have hfz6_0 := blk_frozen BK750.out 0; have hfz6_1 := blk_frozen BK750.out 1; have hfz6_2 := blk_frozen BK750.out 2; have hfz6_3 := blk_frozen BK750.out 3; have hfz6_4 := blk_frozen BK750.out 4) | ((with_reducible refine gate_callee (f := 77) rfl ?_); refine goesL_ (some 5) rfl rfl Try.func77 (by kernel_rfl) rfl #[.agg #[.int .i64 a0_0, .int .i64 a0_1, .int .i64 a0_2, .slice A0_3 l0_3.length c0_3, .slice A0_4 l0_4.length c0_4]] rfl (by (try simp only [mA_]); first | done | rfl | (simp only [List.length_drop, List.length_take]; rfl)) ?_; (with_reducible refine (impl_IsDispatcher.calls k a0_0 a0_1 a0_2 _ _ l0_3 _ _ l0_4 true _ ?side1 ?side2 ?side3 ?side4 A2.out).mono ?_); (case side1 => first | exact bC HR0_3.out HB.out | exact Kd.C_below HR0_3.out HB.out); (case side2 => exact HC0_3.out); (case side3 => first | exact bC HR0_4.out HB.out | exact Kd.C_below HR0_4.out HB.out); (case side4 => exact HC0_4.out); rintro e w7 ⟨rfl, hb⟩; refine ⟨_, rfl, ?_⟩; have n0_ := Aside0.mk (blk_below (bs BK750.out) hb); have n1_ := Aside0.mk (below_step (by repeat (first | (with_reducible first | exact bw HB.out | refine bset ?_ (by assumption) | apply below_alloc | apply pw_below_drewN | apply below_drew1) | exact HB.out)) hb); clear BK750; clear HB; have BK750 := n0_; have HB := n1_; clear n0_ n1_; (try clear hb); (try clear hb2); (try clear hk); (try clear hi); have hcz8_0 := b5_0 BK750.out; have hcz8_1 := b5_1 BK750.out; have hcz8_2 := b5_2 BK750.out; have hcz8_3 := b5_3 BK750.out; have hcz8_4 := b5_4 BK750.out; have hfz8_0 := blk_frozen BK750.out 0; have hfz8_1 := blk_frozen BK750.out 1; have hfz8_2 := blk_frozen BK750.out 2; have hfz8_3 := blk_frozen BK750.out 3; have hfz8_4 := blk_frozen BK750.out 4) | ((with_reducible refine gate_callee (f := 102) rfl ?_); refine goesL_ (some 8) rfl rfl Try.func102 (by kernel_rfl) rfl #[.agg #[.int .i64 a0_0, .int .i64 a0_1, .int .i64 a0_2, .slice A0_3 l0_3.length c0_3, .slice A0_4 l0_4.length c0_4]] rfl (by (try simp only [mA_]); first | done | rfl | (simp only [List.length_drop, List.length_take]; rfl)) ?_; (with_reducible refine (impl_Dispatcher_waiting.calls k a0_0 a0_1 a0_2 _ _ l0_3 _ _ l0_4 t752 _ ?side1 ?side2 ?side3 ?side4 A4.out).mono ?_); (case side1 => first | exact bC HR0_3.out HB.out | exact Kd.C_below HR0_3.out HB.out); (case side2 => exact HC0_3.out); (case side3 => first | exact bC HR0_4.out HB.out | exact Kd.C_below HR0_4.out HB.out); (case side4 => exact HC0_4.out); rintro e w9 ⟨v753, rfl, ho0, hb⟩; refine ⟨_, rfl, ?_⟩; have n0_ := Aside0.mk (Kd.R_lower ho0 (below_size (by repeat (first | (with_reducible first | exact bw HB.out | refine bset ?_ (by assumption) | apply below_alloc | apply pw_below_drewN | apply below_drew1) | exact HB.out)))); have n1_ := Aside0.mk (blk_below (bs BK750.out) hb); have n2_ := Aside0.mk (below_step (by repeat (first | (with_reducible first | exact bw HB.out | refine bset ?_ (by assumption) | apply below_alloc | apply pw_below_drewN | apply below_drew1) | exact HB.out)) hb); clear BK750; clear HB; have HO754 := n0_; have BK750 := n1_; have HB := n2_; clear n0_ n1_ n2_; (try clear hb); (try clear hb2); (try clear hk); (try clear hi); (try clear ho0)))
  go_ret2
  exact ⟨_, by first | rfl | (simp [errW_none, errW_some] <;> rfl) | (simp [*, errW_none, errW_some] <;> rfl), by (with_reducible repeat (first | apply Kd.R_alloc | apply Kd.R_drewN | apply Kd.R_drew)); exact HO754.out, by repeat (first | (with_reducible first | exact bw HB.out | refine bset ?_ (by assumption) | apply below_alloc | apply pw_below_drewN | apply below_drew1) | exact HB.out)⟩
 ·replace c3 := Bool.eq_false_iff.mpr c3
  subst c3
  have H1 : (some (([] : List Int), false)) = some (r1, r2) := by rw [if_neg (show ¬ (false = true) by decide)] at H; exact H
  clear H
  have H := H1
  clear H1
  simp only [Option.some.injEq, Prod.mk.injEq] at H
  obtain ⟨rfl, rfl⟩ := H
  go_enter Try.func47, Try.ntmps47
  go_wp2_with (first | ((with_reducible refine gate_dst (N := 1) rfl ?_); refine box_event ?hg (N := 1) ?hd (cs := #[.int .i64 a0_0, .int .i64 a0_1, .int .i64 a0_2, .slice A0_3 l0_3.length c0_3, .slice A0_4 l0_4.length c0_4]) (t := 25) ?hr ?_; (case hd => rfl); (case hg => rfl); (case hr => first | (go_simp; done) | (go_simp; rfl)); intro gb750 hg w10 hbox hb; have n0_ := Aside0.mk (below_step (bw HB.out) hb); have n1_ := Aside0.mk (hbox); have n2_ := ge_ hg HB.out; have n3_ := ge_ hg HB.out; clear HB; have HB := n0_; have BK750 := n1_; have GW750 := n2_; have GE750 := n3_; clear n0_ n1_ n2_ n3_; clear hb hbox hg; have hcz11_0 := b5_0 BK750.out; have hcz11_1 := b5_1 BK750.out; have hcz11_2 := b5_2 BK750.out; have hcz11_3 := b5_3 BK750.out; have hcz11_4 := b5_4 BK750.out; have hfz11_0 := blk_frozen BK750.out 0; have hfz11_1 := blk_frozen BK750.out 1; have hfz11_2 := blk_frozen BK750.out 2; have hfz11_3 := blk_frozen BK750.out 3; have hfz11_4 := blk_frozen BK750.out 4) | ((with_reducible refine gate_callee (f := 77) rfl ?_); refine goesL_ (some 5) rfl rfl Try.func77 (by kernel_rfl) rfl #[.agg #[.int .i64 a0_0, .int .i64 a0_1, .int .i64 a0_2, .slice A0_3 l0_3.length c0_3, .slice A0_4 l0_4.length c0_4]] rfl (by (try simp only [mA_]); first | done | rfl | (simp only [List.length_drop, List.length_take]; rfl)) ?_; (with_reducible refine (impl_IsDispatcher.calls k a0_0 a0_1 a0_2 _ _ l0_3 _ _ l0_4 false _ ?side1 ?side2 ?side3 ?side4 A2.out).mono ?_); (case side1 => first | exact bC HR0_3.out HB.out | exact Kd.C_below HR0_3.out HB.out); (case side2 => exact HC0_3.out); (case side3 => first | exact bC HR0_4.out HB.out | exact Kd.C_below HR0_4.out HB.out); (case side4 => exact HC0_4.out); rintro e w12 ⟨rfl, hb⟩; refine ⟨_, rfl, ?_⟩; have n0_ := Aside0.mk (blk_below (bs BK750.out) hb); have n1_ := Aside0.mk (below_step (by repeat (first | (with_reducible first | exact bw HB.out | refine bset ?_ (by assumption) | apply below_alloc | apply pw_below_drewN | apply below_drew1) | exact HB.out)) hb); clear BK750; clear HB; have BK750 := n0_; have HB := n1_; clear n0_ n1_; (try clear hb); (try clear hb2); (try clear hk); (try clear hi)))
  go_ret2
  exact ⟨_, by first | rfl | (simp [errW_none, errW_some] <;> rfl) | (simp [*, errW_none, errW_some] <;> rfl), by first | exact Kd.R_nil _ _ _ _ _ | exact Kd.N_nil _ _ _ _ _ | exact Kd.V_nil _ _ _ _ _ | exact Kd.Q_nil _ _ _ _ _ | exact Kd.S_nil _ _ _ _ _, by repeat (first | (with_reducible first | exact bw HB.out | refine bset ?_ (by assumption) | apply below_alloc | apply pw_below_drewN | apply below_drew1) | exact HB.out)⟩

end Go.Proofs.Ytafdeppeacmpdaa.X
