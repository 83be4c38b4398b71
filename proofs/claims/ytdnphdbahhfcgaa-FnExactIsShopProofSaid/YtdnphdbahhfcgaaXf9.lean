-- Written by a program of this session (wip/gen/xp.py, over the kit's printer). Not trusted: Lean checks it.
import Derived.Test.YtdnphdbahhfcgaaX0
import Derived.Test.YtdnphdbahhfcgaaXf17
import Derived.Test.YtdnphdbahhfcgaaXf6
namespace Go.Proofs.Ytdnphdbahhfcgaa.X
open Go.RowKit Go.Proofs.YtdnphdbahhfcgaaW.PrintWords Go.Proofs.YtdnphdbahhfcgaaW.PrintLast Go.Proofs.YtdnphdbahhfcgaaW.PrintMore
attribute [local go_sem] max2_int min2_int max_two min_two max_three min_three max_four min_four   -- for this text's walks alone
set_option linter.unusedVariables false
set_option linter.unusedSimpArgs false

/-! ### impl_flat_areArcs: function 33 -/
abbrev q33_0 : Array Bool := ⟨rl_ [40] false⟩
abbrev q33_3 : Array Bool := ⟨rl_ [3, 37] true⟩
abbrev q33_4 : Array Bool := ⟨rl_ [4, 36] true⟩
abbrev q33_6 : Array Bool := ⟨rl_ [6, 34] true⟩
abbrev q33_11 : Array Bool := ⟨rl_ [11, 29] true⟩
abbrev q33_12 : Array Bool := ⟨rl_ [12, 28] true⟩
abbrev q33_14 : Array Bool := ⟨rl_ [14, 26] true⟩
abbrev q33_20 : Array Bool := ⟨rl_ [20, 20] true⟩
abbrev q33_21 : Array Bool := ⟨rl_ [21, 19] true⟩
abbrev q33_34 : Array Bool := ⟨rl_ [34, 6] true⟩
abbrev q33_35 : Array Bool := ⟨rl_ [35, 5] true⟩
abbrev q33_38 : Array Bool := ⟨rl_ [38, 2] true⟩
abbrev q33_44 : Array Bool := ⟨rl_ [27, 4, 1, 1, 1, 6] true⟩
abbrev q33_45 : Array Bool := ⟨rl_ [28, 3, 1, 1, 1, 6] true⟩
abbrev q33_48 : Array Bool := ⟨rl_ [32, 1, 1, 6] true⟩
def impl_flat_areArcs.l0 : Nat → List (S43) → Int → Int → List (S62) → List Int → List Int → Option (Bool)
 | 0, _, _, _, _, _, _ => none
 | k + 1, x7, x8, x9, x306000, x306001, x306002 => if x9 < x8 then (if 0 ≤ x9 then (if x9 < (x7.length : Int) then ((impl_isNumber.f ((rd_T43 x7 x9).f0) (x306000.length : Int)).bind fun t308 => (if t308 = true then ((impl_isNumber.f ((rd_T43 x7 x9).f1) (x306000.length : Int)).bind fun t309 => (if t309 = true then (if ((rd_T43 x7 x9).f0) = ((rd_T43 x7 x9).f1) then (some false) else (if 0 ≤ ((rd_T43 x7 x9).f0) then (if ((rd_T43 x7 x9).f0) < (x306000.length : Int) then (if 0 ≤ ((rd_T43 x7 x9).f1) then (if ((rd_T43 x7 x9).f1) < (x306000.length : Int) then (if ((rd_T62 x306000 ((rd_T43 x7 x9).f0)).f0) = ((rd_T62 x306000 ((rd_T43 x7 x9).f1)).f0) then (impl_flat_areArcs.l0 k x7 x8 (wrap64 (x9 + 1)) x306000 x306001 x306002) else (some false)) else (none)) else (none)) else (none)) else (none))) else (some false))) else (some false))) else (none)) else (none)) else (some true)
def impl_flat_areArcs.f (k : Nat) (l0_0 : List (S62)) (l0_1 : List Int) (l0_2 : List Int) (l1 : List (S43)) : Option (Bool) := impl_flat_areArcs.l0 k l1 (l1.length : Int) 0 l0_0 l0_1 l0_2
theorem impl_flat_areArcs.mono_l : ∀ k, (∀ y0 y1 y2 y3 y4 y5, LeO (impl_flat_areArcs.l0 k y0 y1 y2 y3 y4 y5) (impl_flat_areArcs.l0 (k + 1) y0 y1 y2 y3 y4 y5))
 | 0 => fun _ _ _ _ _ _ r h => by simp [impl_flat_areArcs.l0] at h
 | k + 1 => by
  have ih0 := impl_flat_areArcs.mono_l k
  ·intro y0 y1 y2 y3 y4 y5
   unfold impl_flat_areArcs.l0
   repeat' first
   | (with_reducible exact ih0 _ _ _ _ _ _)
   | (with_reducible exact LeO.refl _)
   | (with_reducible exact LeO.none _)
   | (with_reducible refine LeO.ite ?_ ?_)
   | (with_reducible refine LeO.bind ?_ (fun _ => ?_))
   | exact ih0 _ _ _ _ _ _
   | exact LeO.none _
   | refine LeO.ite ?_ ?_
   | refine LeO.bind ?_ (fun _ => ?_)
theorem impl_flat_areArcs.mono : ∀ a0 a1 a2 a3 k, LeO (impl_flat_areArcs.f k a0 a1 a2 a3) (impl_flat_areArcs.f (k + 1) a0 a1 a2 a3) := by
 intro a0 a1 a2 a3 k
 have ih0 := impl_flat_areArcs.mono_l k
 unfold impl_flat_areArcs.f
 repeat' first
   | (with_reducible exact ih0 _ _ _ _ _ _)
   | (with_reducible exact LeO.refl _)
   | (with_reducible exact LeO.none _)
   | (with_reducible refine LeO.ite ?_ ?_)
   | (with_reducible refine LeO.bind ?_ (fun _ => ?_))
   | exact ih0 _ _ _ _ _ _
   | exact LeO.none _
   | refine LeO.ite ?_ ?_
   | refine LeO.bind ?_ (fun _ => ?_)
def impl_flat_areArcs.T4 : Bool × List (List Nat × List Nat) := (true, [([], []), ([0], [0]), ([], []), ([2], [2]), ([3], [3]), ([1, 4], [1, 4]), ([5], [5]), ([6, 5], [6]), ([7], [7]), ([8, 7], [7, 8]), ([7], [7]), ([10, 7], [7, 10]), ([11, 7], [7, 11]), ([9, 12, 7, 7], [7, 9, 12]), ([13, 7], [7, 13]), ([7, 14], [7, 14]), ([15, 13], [15]), ([16], [16]), ([17, 16], [16, 17]), ([16], [16]), ([19, 16], [16, 19]), ([18, 20, 16], [16, 18, 20]), ([16, 21], [16, 21]), ([22, 16], [22]), ([23], [23]), ([24, 23], [23, 24]), ([23], [23]), ([26, 23], [23, 26]), ([25, 27, 23], [23, 25, 27]), ([28, 23], [23, 28]), ([29, 23], [23, 29]), ([23], [23]), ([31, 23], [23, 31]), ([23], [23]), ([33, 23], [23, 33]), ([32, 34, 23], [23, 32, 34]), ([35, 23], [23, 35]), ([36, 23], [23, 36]), ([30, 37, 23], [23, 30, 37]), ([23, 38], [23, 38])])
def impl_flat_areArcs.B4 : List Nat := [0, 1, 0, 4, 12, 31, 63, 127, 255, 511, 255, 1279, 3327, 8191, 16383, 32767, 65535, 131071, 262143, 131071, 655359, 2097151, 4194303, 8388607, 16777215, 33554431, 16777215, 83886079, 268435455, 536870911, 1073741823, 16777215, 2164260863, 16777215, 8606711807, 32229031935, 66588770303, 135308247039, 274877906943, 549755813887]
theorem impl_flat_areArcs.tab4 : rtab .any (opsOf Try.f33 4) = impl_flat_areArcs.T4 := by kernel_rfl
theorem impl_flat_areArcs.bits4 : waitsOk impl_flat_areArcs.T4.2 impl_flat_areArcs.B4 = true := by kernel_rfl
set_option maxHeartbeats 8000000 in
set_option maxRecDepth 100000 in
theorem impl_flat_areArcs.calls (k : Nat) (A0_0 : Option Addr) (c0_0 : Nat) (l0_0 : List (S62)) (A0_1 : Option Addr) (c0_1 : Nat) (l0_1 : List Int) (A0_2 : Option Addr) (c0_2 : Nat) (l0_2 : List Int) (A1 : Option Addr) (c1 : Nat) (l1 : List (S43)) (r : Bool) (w : World) (hr0_0 : Kd.C k62 w A0_0 l0_0.length l0_0) (hc0_0 : l0_0.length ≤ c0_0) (hr0_1 : Kd.C (Kd.int .i64) w A0_1 l0_1.length l0_1) (hc0_1 : l0_1.length ≤ c0_1) (hr0_2 : Kd.C (Kd.int .i64) w A0_2 l0_2.length l0_2) (hc0_2 : l0_2.length ≤ c0_2) (hr1 : Kd.C k43 w A1 l1.length l1) (hc1 : l1.length ≤ c1) (h : impl_flat_areArcs.f k l0_0 l0_1 l0_2 l1 = some r) :
  Calls Try.prog 33 #[.agg #[.slice A0_0 l0_0.length c0_0, .slice A0_1 l0_1.length c0_1, .slice A0_2 l0_2.length c0_2], .slice A1 l1.length c1] w fun e w' => e = .returned (.bool r) ∧ Below w.heap.size w w' := by
 have hu48 := Try.underlying48
 have hu43 := Try.underlying43
 have HR0_0 := Aside0.mk hr0_0
 have HC0_0 := Aside0.mk hc0_0
 clear hr0_0 hc0_0
 have HR0_1 := Aside0.mk hr0_1
 have HC0_1 := Aside0.mk hc0_1
 clear hr0_1 hc0_1
 have HR0_2 := Aside0.mk hr0_2
 have HC0_2 := Aside0.mk hc0_2
 clear hr0_2 hc0_2
 have HR1 := Aside0.mk hr1
 have HC1 := Aside0.mk hc1
 clear hr1 hc1
 have HB := Aside0.mk (Below.refl w.heap.size w)
 have H : (impl_flat_areArcs.l0 k l1 (l1.length : Int) 0 l0_0 l0_1 l0_2) = some r := h
 clear h
 have H' := Aside0.mk H
 clear H
 go_enter Try.func33, Try.ntmps33
 go_wp2_with (first | ((with_reducible refine gate_dst (N := 2) rfl ?_); (try (refine gate_guard (by rfl) ?_; dsimp only)); refine box_event ?hg (N := 2) ?hd (cs := #[.slice A0_0 l0_0.length c0_0, .slice A0_1 l0_1.length c0_1, .slice A0_2 l0_2.length c0_2]) (t := 48) ?hr ?_; (case hd => rfl); (case hg => rfl); (case hr => first | (go_simp; done) | (go_simp; rfl)); intro gb305 hg w3 hbox hb; have n0_ := Aside0.mk (below_step (bw HB.out) hb); have n1_ := Aside0.mk (hbox); have n2_ := ge_ hg HB.out; have n3_ := ge_ hg HB.out; replace HB := n0_; have BK305 := n1_; have GW305 := n2_; have GE305 := n3_; clear n0_ n1_ n2_ n3_; clear hb hbox hg))
 go_loopg [9] k (fun kq v9 w' => ∃ (x9_1 : Int), v9 = .int .i64 x9_1 ∧ Aside0 (impl_flat_areArcs.l0 kq l1 (l1.length : Int) x9_1 l0_0 l0_1 l0_2 = some r) ∧ Aside0 (kq ≤ k) ∧ Aside0 (w'.heap[gb305]? = some (.cells #[(.slice A0_0 l0_0.length c0_0), (.slice A0_1 l0_1.length c0_1), (.slice A0_2 l0_2.length c0_2)] 48 (0, 0))) ∧ Aside0 (Below w.heap.size w w'))
 case atStart => exact ⟨(0), (by first | rfl | (simp; done) | (simp [*]; done)), H', ⟨Nat.le_refl _⟩, ⟨bs BK305.out⟩, ⟨by repeat (first | (with_reducible first | exact bw HB.out | refine bset ?_ | apply bA | apply bN | apply bD) | exact HB.out)⟩⟩
 case round =>
  clear H'
  try clear c1
  try clear p2
  try clear c3
  obtain ⟨x9_1, rfl, HA, HK1, BK305, HB⟩ := hrel
  cases gk with
  | zero => exact absurd HA.out (by simp [impl_flat_areArcs.l0])
  | succ k1 =>
   have H := HA.out
   clear HA
   simp only [impl_flat_areArcs.l0] at H
   by_cases c4 : x9_1 < (l1.length : Int)
   rotate_left
   ·rw [if_neg c4] at H
    have c4b0 : decide (x9_1 < (l1.length : Int)) = false := decide_eq_false c4
    clear c4
    obtain rfl := Option.some.inj H
    go_wp2
    go_ret
    exact ⟨by first | rfl | (simp [errW_none, errW_some] <;> rfl) | (simp [*, errW_none, errW_some] <;> rfl), by repeat (first | (with_reducible first | exact bw HB.out | refine bset ?_ | apply bA | apply bN | apply bD) | exact HB.out)⟩
   rw [if_pos c4] at H
   have c4b0 : decide (x9_1 < (l1.length : Int)) = true := decide_eq_true c4
   clear c4
   by_cases c5 : 0 ≤ x9_1
   rotate_left
   ·rw [if_neg c5] at H
    exact absurd H (by simp)
   rw [if_pos c5] at H
   have c5b0 : decide (0 ≤ x9_1) = true := decide_eq_true c5
   clear c5
   by_cases c6 : x9_1 < (l1.length : Int)
   rotate_left
   ·rw [if_neg c6] at H
    exact absurd H (by simp)
   rw [if_pos c6] at H
   have c6b0 : decide (x9_1 < (l1.length : Int)) = true := decide_eq_true c6
   clear c6
   replace H := Option.bind_eq_some_iff.mp H
   obtain ⟨t308, A70, H⟩ := H
   replace H : (if t308 = true then ((impl_isNumber.f ((rd_T43 l1 x9_1).f1) (l0_0.length : Int)).bind fun t309 => (if t309 = true then (if ((rd_T43 l1 x9_1).f0) = ((rd_T43 l1 x9_1).f1) then (some false) else (if 0 ≤ ((rd_T43 l1 x9_1).f0) then (if ((rd_T43 l1 x9_1).f0) < (l0_0.length : Int) then (if 0 ≤ ((rd_T43 l1 x9_1).f1) then (if ((rd_T43 l1 x9_1).f1) < (l0_0.length : Int) then (if ((rd_T62 l0_0 ((rd_T43 l1 x9_1).f0)).f0) = ((rd_T62 l0_0 ((rd_T43 l1 x9_1).f1)).f0) then (impl_flat_areArcs.l0 k1 l1 (l1.length : Int) (wrap64 (x9_1 + 1)) l0_0 l0_1 l0_2) else (some false)) else (none)) else (none)) else (none)) else (none))) else (some false))) else (some false)) = some r := H
   have A7 := Aside0.mk A70
   clear A70
   by_cases c8 : t308 = true
   rotate_left
   ·replace c8 := Bool.eq_false_iff.mpr c8
    subst c8
    have H1 : (some false) = some r := by rw [if_neg (show ¬ (false = true) by decide)] at H; exact H
    clear H
    have H := H1
    clear H1
    obtain rfl := Option.some.inj H
    have p306 : 0 ≤ (x9_1 : Int) := of_decide_eq_true (by first | (with_reducible assumption) | assumption)
    have q306 : x9_1 < (l1.length : Int) := of_decide_eq_true (by first | (with_reducible assumption) | assumption)
    obtain ⟨ad306, e306, hx306_0, hx306_1⟩ := at_T43 HR1.out x9_1 p306 q306
    cases e306
    replace hx306_0 := (HB.out.cell (World.block_lt_of_cell? w _ hx306_0)).trans hx306_0
    replace hx306_1 := (HB.out.cell (World.block_lt_of_cell? w _ hx306_1)).trans hx306_1
    replace p306 := eq_true p306
    replace q306 := eq_true q306
    try go_wp2_with (first | ((with_reducible refine gate_dst (N := 6) rfl ?_); (try (refine gate_guard (by rfl) ?_; dsimp only)); refine box_event ?hg (N := 6) ?hd (cs := #[.int .i64 0, .int .i64 0]) (t := 43) ?hr ?_; (case hd => rfl); (case hg => rfl); (case hr => first | (go_simp; done) | (go_simp; rfl)); intro gb307 hg w37 hbox hb; have n0_ := Aside0.mk (blk_below (bs BK305.out) hb); have n1_ := Aside0.mk (below_step (by repeat (first | (with_reducible first | exact bw HB.out | refine bset ?_ | apply bA | apply bN | apply bD) | exact HB.out)) hb); have n2_ := Aside0.mk (hbox); have n3_ := Aside0.mk ((by rw [hg]; exact (below_size (by repeat (first | (with_reducible first | exact bw HB.out | refine bset ?_ | apply bA | apply bN | apply bD) | exact HB.out))) : w.heap.size ≤ gb307)); have n4_ := Aside0.mk ((by rw [hg]; exact (below_size (by repeat (first | (with_reducible first | exact bw HB.out | refine bset ?_ | apply bA | apply bN | apply bD) | exact HB.out))) : w.heap.size ≤ gb307)); have n5_ := ne_ hg BK305.out; have n6_ := en_ hg BK305.out; replace BK305 := n0_; replace HB := n1_; have BK307 := n2_; have GW307 := n3_; have GE307 := n4_; have NB305_307 := n5_; have NB307_305 := n6_; clear n0_ n1_ n2_ n3_ n4_ n5_ n6_; clear hb hbox hg; have hnb38 := NB307_305.out; have hnc38 := NB305_307.out; obtain ⟨hcz39_0, hcz39_1, hfz39_0, hfz39_1⟩ := bz2 BK307.out))
    have n0_ : Aside0 (((w37.setCell ⟨gb307, 0, none⟩ (.int .i64 ((rd_T43 l1 x9_1).f0))).setCell ⟨gb307, 1, none⟩ (.int .i64 ((rd_T43 l1 x9_1).f1))).heap[gb305]? = some (.cells #[.slice A0_0 l0_0.length c0_0, .slice A0_1 l0_1.length c0_1, .slice A0_2 l0_2.length c0_2] 48 (0, 0))) := ⟨by (with_reducible repeat (first | refine blk_drewN ?_ _ | refine blk_drew ?_ | refine blk_alloc ?_ _)); refine blk_far ?_ NB305_307.out _; (with_reducible repeat (first | refine blk_drewN ?_ _ | refine blk_drew ?_ | refine blk_alloc ?_ _)); refine blk_far ?_ NB305_307.out _; exact bs BK305.out⟩
    have n1_ : Aside0 (((w37.setCell ⟨gb307, 0, none⟩ (.int .i64 ((rd_T43 l1 x9_1).f0))).setCell ⟨gb307, 1, none⟩ (.int .i64 ((rd_T43 l1 x9_1).f1))).heap[gb307]? = some (.cells #[.int .i64 ((rd_T43 l1 x9_1).f0), .int .i64 ((rd_T43 l1 x9_1).f1)] 43 (0, 0))) := ⟨by (with_reducible repeat (first | refine blk_drewN ?_ _ | refine blk_drew ?_ | refine blk_alloc ?_ _)); refine blk_put (cs := #[.int .i64 ((rd_T43 l1 x9_1).f0), .int .i64 0]) ?_ 1 _ rfl; (with_reducible repeat (first | refine blk_drewN ?_ _ | refine blk_drew ?_ | refine blk_alloc ?_ _)); refine blk_put (cs := #[.int .i64 0, .int .i64 0]) ?_ 0 _ rfl; exact bs BK307.out⟩
    have n2_ : Aside0 (Below w.heap.size w ((w37.setCell ⟨gb307, 0, none⟩ (.int .i64 ((rd_T43 l1 x9_1).f0))).setCell ⟨gb307, 1, none⟩ (.int .i64 ((rd_T43 l1 x9_1).f1)))) := ⟨by repeat (first | (with_reducible first | exact bw HB.out | refine bset ?_ | apply bA | apply bN | apply bD) | exact HB.out)⟩
    (try clear BK305)
    (try clear BK307)
    (try clear HB)
    (try simp only [setCell_drewN])
    generalize ((w37.setCell ⟨gb307, 0, none⟩ (.int .i64 ((rd_T43 l1 x9_1).f0))).setCell ⟨gb307, 1, none⟩ (.int .i64 ((rd_T43 l1 x9_1).f1))) = w40 at n0_ n1_ n2_ ⊢
    have BK305 := n0_
    have BK307 := n1_
    have HB := n2_
    clear n0_ n1_ n2_
    have n0_ := Aside0.mk (blk_drew BK305.out)
    have n1_ := Aside0.mk (blk_drew BK307.out)
    have n2_ := Aside0.mk (below_drew1 HB.out)
    replace BK305 := n0_
    replace BK307 := n1_
    replace HB := n2_
    clear n0_ n1_ n2_
    refine start_ (n := 40) (S := fun w' => w'.cell? ⟨gb307, 0, none⟩ = some (.int .i64 ((rd_T43 l1 x9_1).f0)) ∧ w'.cell? ⟨gb307, 1, none⟩ = some (.int .i64 ((rd_T43 l1 x9_1).f1)) ∧ w'.cell? ⟨gb305, 0, none⟩ = some (.slice A0_0 l0_0.length c0_0) ∧ w'.cell? ⟨gb305, 1, none⟩ = some (.slice A0_1 l0_1.length c0_1) ∧ w'.cell? ⟨gb305, 2, none⟩ = some (.slice A0_2 l0_2.length c0_2)) (ds := []) q33_0 (by kernel_rfl) rfl rfl ⟨(blk_cell BK307.out 0).trans rfl, (blk_cell BK307.out 1).trans rfl, (blk_cell BK305.out 0).trans rfl, (blk_cell BK305.out 1).trans rfl, (blk_cell BK305.out 2).trans rfl⟩ (fun hHeld => ?_); refine with_tabW impl_flat_areArcs.tab4 impl_flat_areArcs.bits4 (fun HT_ HW_ => ?_)
    generalize w40.drew = w41 at BK305 BK307 HB hHeld ⊢
    refine pup_ (i := 0) (N := some 13) HT_ rfl rfl (by kernel_rfl) (fun _ _ _ h => h) (Or.inl ⟨by rfl, by intro w'; go_simp; with_reducible rfl⟩) (by simp only [aq_]; rfl) ?_
    refine pup_ (i := 2) (N := some 15) HT_ rfl rfl (by kernel_rfl) (fun _ _ _ h => h) (Or.inl ⟨by rfl, by intro w'; go_simp; with_reducible rfl⟩) (by simp only [aq_]; rfl) ?_
    refine take_ (i := 1) (N := some 14) (v := ?_) (a' := ?_) q33_3 rfl rfl (take_ofW HT_.out HW_.out (by kernel_rfl)) (fun _ _ _ h => h) (Or.inl ⟨by rfl, ?_⟩) hHeld ?_ ?_
    rotate_left
    ·rintro w' ⟨s0, s1, s2, s3, s4⟩
     go_simp
     with_reducible rfl
    rotate_left
    ·simp only [aq_]
     rfl
    refine take_ (i := 3) (N := some 16) (v := ?_) (a' := ?_) q33_4 rfl rfl (take_ofW HT_.out HW_.out (by kernel_rfl)) (fun _ _ _ h => h) (Or.inl ⟨by rfl, ?_⟩) hHeld ?_ ?_
    rotate_left
    ·rintro w' ⟨s0, s1, s2, s3, s4⟩
     go_simp
     with_reducible rfl
    rotate_left
    ·simp only [aq_]
     rfl
    refine pup_ (i := 4) (N := some 17) HT_ rfl rfl (by kernel_rfl) (fun _ _ _ h => h) (Or.inl ⟨by rfl, by intro w'; go_simp; with_reducible rfl⟩) (by simp only [aq_]; rfl) ?_
    refine one_ (i := 5) (N := some 18) q33_6 rfl rfl (one_of HT_.out (by kernel_rfl)) (by decide) (fun K hK => ?_)
    refine goes_ Try.func30 (by kernel_rfl) rfl #[.int .i64 ((rd_T43 l1 x9_1).f0), .int .i64 (l0_0.length : Int)] (by rfl) rfl rfl (by (try simp only [mA_]); first | done | rfl | (simp only [List.length_drop, List.length_take]; rfl)) ?_
    with_reducible refine (impl_isNumber.calls ((rd_T43 l1 x9_1).f0) (l0_0.length : Int) false _ A7.out).mono ?_
    rintro e w' ⟨rfl, ⟨nd, rfl⟩⟩
    refine ⟨_, rfl, ?_⟩
    refine hK.out _ _ ⟨(blk_cell BK307.out 0).trans rfl, (blk_cell BK307.out 1).trans rfl, (blk_cell BK305.out 0).trans rfl, (blk_cell BK305.out 1).trans rfl, (blk_cell BK305.out 2).trans rfl⟩ (fun hHeld => ?_)
    clear hK K
    refine norm_ (a' := ?_) ?_ ?_
    rotate_left
    ·show Act.put _ (some 18) _ = _
     simp only [aq_]
     rfl
    refine pup_ (i := 6) (N := some 19) HT_ rfl rfl (by kernel_rfl) (fun _ _ _ h => h) (Or.inl ⟨by rfl, by intro w'; go_simp; with_reducible rfl⟩) (by simp only [aq_]; rfl) ?_
    refine pup_ (i := 7) (N := some 20) HT_ rfl rfl (by kernel_rfl) (fun _ _ _ h => h) (Or.inl ⟨by rfl, by intro w'; go_simp; with_reducible rfl⟩) (by simp only [aq_]; rfl) ?_
    refine skp_ HT_ 8 (some 21) rfl rfl (by kernel_rfl) (fun _ _ _ h => h) (by rfl) (by simp only [aq_]; rfl) ?_
    refine skp_ HT_ 9 (some 22) rfl rfl (by kernel_rfl) (fun _ _ _ h => h) (by rfl) (by simp only [aq_]; rfl) ?_
    refine skp_ HT_ 10 (some 23) rfl rfl (by kernel_rfl) (fun _ _ _ h => h) (by rfl) (by simp only [aq_]; rfl) ?_
    refine skp_ HT_ 11 (some 24) rfl rfl (by kernel_rfl) (fun _ _ _ h => h) (by rfl) (by simp only [aq_]; rfl) ?_
    refine skp_ HT_ 12 (some 25) rfl rfl (by kernel_rfl) (fun _ _ _ h => h) (by rfl) (by simp only [aq_]; rfl) ?_
    refine skp_ HT_ 13 (some 26) rfl rfl (by kernel_rfl) (fun _ _ _ h => h) (by rfl) (by simp only [aq_]; rfl) ?_
    refine skp_ HT_ 14 (some 27) rfl rfl (by kernel_rfl) (fun _ _ _ h => h) (by rfl) (by simp only [aq_]; rfl) ?_
    refine pup_ (i := 15) (N := some 28) HT_ rfl rfl (by kernel_rfl) (fun _ _ _ h => h) (Or.inl ⟨by rfl, by intro w'; go_simp; with_reducible rfl⟩) (by simp only [aq_]; rfl) ?_
    refine pup_ (i := 16) (N := some 29) HT_ rfl rfl (by kernel_rfl) (fun _ _ _ h => h) (Or.inl ⟨by rfl, by intro w'; go_simp; with_reducible rfl⟩) (by simp only [aq_]; rfl) ?_
    refine skp_ HT_ 17 (some 30) rfl rfl (by kernel_rfl) (fun _ _ _ h => h) (by rfl) (by simp only [aq_]; rfl) ?_
    refine skp_ HT_ 18 (some 31) rfl rfl (by kernel_rfl) (fun _ _ _ h => h) (by rfl) (by simp only [aq_]; rfl) ?_
    refine skp_ HT_ 19 (some 32) rfl rfl (by kernel_rfl) (fun _ _ _ h => h) (by rfl) (by simp only [aq_]; rfl) ?_
    refine skp_ HT_ 20 (some 33) rfl rfl (by kernel_rfl) (fun _ _ _ h => h) (by rfl) (by simp only [aq_]; rfl) ?_
    refine skp_ HT_ 21 (some 34) rfl rfl (by kernel_rfl) (fun _ _ _ h => h) (by rfl) (by simp only [aq_]; rfl) ?_
    refine pup_ (i := 22) (N := some 35) HT_ rfl rfl (by kernel_rfl) (fun _ _ _ h => h) (Or.inl ⟨by rfl, by intro w'; go_simp; with_reducible rfl⟩) (by simp only [aq_]; rfl) ?_
    refine pup_ (i := 23) (N := some 36) HT_ rfl rfl (by kernel_rfl) (fun _ _ _ h => h) (Or.inl ⟨by rfl, by intro w'; go_simp; with_reducible rfl⟩) (by simp only [aq_]; rfl) ?_
    refine skp_ HT_ 24 (some 37) rfl rfl (by kernel_rfl) (fun _ _ _ h => h) (by rfl) (by simp only [aq_]; rfl) ?_
    refine skp_ HT_ 25 (some 38) rfl rfl (by kernel_rfl) (fun _ _ _ h => h) (by rfl) (by simp only [aq_]; rfl) ?_
    refine skp_ HT_ 26 (some 39) rfl rfl (by kernel_rfl) (fun _ _ _ h => h) (by rfl) (by simp only [aq_]; rfl) ?_
    refine skp_ HT_ 27 (some 40) rfl rfl (by kernel_rfl) (fun _ _ _ h => h) (by rfl) (by simp only [aq_]; rfl) ?_
    refine skp_ HT_ 28 (some 41) rfl rfl (by kernel_rfl) (fun _ _ _ h => h) (by rfl) (by simp only [aq_]; rfl) ?_
    refine skp_ HT_ 29 (some 42) rfl rfl (by kernel_rfl) (fun _ _ _ h => h) (by rfl) (by simp only [aq_]; rfl) ?_
    refine skp_ HT_ 30 (some 43) rfl rfl (by kernel_rfl) (fun _ _ _ h => h) (by rfl) (by simp only [aq_]; rfl) ?_
    refine skp_ HT_ 31 (some 44) rfl rfl (by kernel_rfl) (fun _ _ _ h => h) (by rfl) (by simp only [aq_]; rfl) ?_
    refine skp_ HT_ 32 (some 45) rfl rfl (by kernel_rfl) (fun _ _ _ h => h) (by rfl) (by simp only [aq_]; rfl) ?_
    refine skp_ HT_ 33 (some 46) rfl rfl (by kernel_rfl) (fun _ _ _ h => h) (by rfl) (by simp only [aq_]; rfl) ?_
    refine skp_ HT_ 34 (some 47) rfl rfl (by kernel_rfl) (fun _ _ _ h => h) (by rfl) (by simp only [aq_]; rfl) ?_
    refine skp_ HT_ 35 (some 48) rfl rfl (by kernel_rfl) (fun _ _ _ h => h) (by rfl) (by simp only [aq_]; rfl) ?_
    refine skp_ HT_ 36 (some 49) rfl rfl (by kernel_rfl) (fun _ _ _ h => h) (by rfl) (by simp only [aq_]; rfl) ?_
    refine skp_ HT_ 37 (some 50) rfl rfl (by kernel_rfl) (fun _ _ _ h => h) (by rfl) (by simp only [aq_]; rfl) ?_
    refine skp_ HT_ 38 (some 51) rfl rfl (by kernel_rfl) (fun _ _ _ h => h) (by rfl) (by simp only [aq_]; rfl) ?_
    refine pup_ (i := 39) (N := some 52) HT_ rfl rfl (by kernel_rfl) (fun _ _ _ h => h) (Or.inl ⟨by rfl, by intro w'; go_simp; with_reducible rfl⟩) (by simp only [aq_]; rfl) ?_
    refine done_ (done_of HT_.out (by kernel_rfl)) ?_
    try go_wp2
    go_ret
    exact ⟨by first | rfl | (simp [errW_none, errW_some] <;> rfl) | (simp [*, errW_none, errW_some] <;> rfl), by repeat (first | (with_reducible first | exact bw HB.out | refine bset ?_ | apply bA | apply bN | apply bD) | exact HB.out)⟩
   subst c8
   have H1 : ((impl_isNumber.f ((rd_T43 l1 x9_1).f1) (l0_0.length : Int)).bind fun t309 => (if t309 = true then (if ((rd_T43 l1 x9_1).f0) = ((rd_T43 l1 x9_1).f1) then (some false) else (if 0 ≤ ((rd_T43 l1 x9_1).f0) then (if ((rd_T43 l1 x9_1).f0) < (l0_0.length : Int) then (if 0 ≤ ((rd_T43 l1 x9_1).f1) then (if ((rd_T43 l1 x9_1).f1) < (l0_0.length : Int) then (if ((rd_T62 l0_0 ((rd_T43 l1 x9_1).f0)).f0) = ((rd_T62 l0_0 ((rd_T43 l1 x9_1).f1)).f0) then (impl_flat_areArcs.l0 k1 l1 (l1.length : Int) (wrap64 (x9_1 + 1)) l0_0 l0_1 l0_2) else (some false)) else (none)) else (none)) else (none)) else (none))) else (some false))) = some r := by rw [if_pos rfl] at H; exact H
   clear H
   have H := H1
   clear H1
   replace H := Option.bind_eq_some_iff.mp H
   obtain ⟨t309, A90, H⟩ := H
   replace H : (if t309 = true then (if ((rd_T43 l1 x9_1).f0) = ((rd_T43 l1 x9_1).f1) then (some false) else (if 0 ≤ ((rd_T43 l1 x9_1).f0) then (if ((rd_T43 l1 x9_1).f0) < (l0_0.length : Int) then (if 0 ≤ ((rd_T43 l1 x9_1).f1) then (if ((rd_T43 l1 x9_1).f1) < (l0_0.length : Int) then (if ((rd_T62 l0_0 ((rd_T43 l1 x9_1).f0)).f0) = ((rd_T62 l0_0 ((rd_T43 l1 x9_1).f1)).f0) then (impl_flat_areArcs.l0 k1 l1 (l1.length : Int) (wrap64 (x9_1 + 1)) l0_0 l0_1 l0_2) else (some false)) else (none)) else (none)) else (none)) else (none))) else (some false)) = some r := H
   have A9 := Aside0.mk A90
   clear A90
   by_cases c10 : t309 = true
   rotate_left
   ·replace c10 := Bool.eq_false_iff.mpr c10
    subst c10
    have H1 : (some false) = some r := by rw [if_neg (show ¬ (false = true) by decide)] at H; exact H
    clear H
    have H := H1
    clear H1
    obtain rfl := Option.some.inj H
    have p306 : 0 ≤ (x9_1 : Int) := of_decide_eq_true (by first | (with_reducible assumption) | assumption)
    have q306 : x9_1 < (l1.length : Int) := of_decide_eq_true (by first | (with_reducible assumption) | assumption)
    obtain ⟨ad306, e306, hx306_0, hx306_1⟩ := at_T43 HR1.out x9_1 p306 q306
    cases e306
    replace hx306_0 := (HB.out.cell (World.block_lt_of_cell? w _ hx306_0)).trans hx306_0
    replace hx306_1 := (HB.out.cell (World.block_lt_of_cell? w _ hx306_1)).trans hx306_1
    replace p306 := eq_true p306
    replace q306 := eq_true q306
    try go_wp2_with (first | ((with_reducible refine gate_dst (N := 6) rfl ?_); (try (refine gate_guard (by rfl) ?_; dsimp only)); refine box_event ?hg (N := 6) ?hd (cs := #[.int .i64 0, .int .i64 0]) (t := 43) ?hr ?_; (case hd => rfl); (case hg => rfl); (case hr => first | (go_simp; done) | (go_simp; rfl)); intro gb307 hg w32 hbox hb; have n0_ := Aside0.mk (blk_below (bs BK305.out) hb); have n1_ := Aside0.mk (below_step (by repeat (first | (with_reducible first | exact bw HB.out | refine bset ?_ | apply bA | apply bN | apply bD) | exact HB.out)) hb); have n2_ := Aside0.mk (hbox); have n3_ := Aside0.mk ((by rw [hg]; exact (below_size (by repeat (first | (with_reducible first | exact bw HB.out | refine bset ?_ | apply bA | apply bN | apply bD) | exact HB.out))) : w.heap.size ≤ gb307)); have n4_ := Aside0.mk ((by rw [hg]; exact (below_size (by repeat (first | (with_reducible first | exact bw HB.out | refine bset ?_ | apply bA | apply bN | apply bD) | exact HB.out))) : w.heap.size ≤ gb307)); have n5_ := ne_ hg BK305.out; have n6_ := en_ hg BK305.out; replace BK305 := n0_; replace HB := n1_; have BK307 := n2_; have GW307 := n3_; have GE307 := n4_; have NB305_307 := n5_; have NB307_305 := n6_; clear n0_ n1_ n2_ n3_ n4_ n5_ n6_; clear hb hbox hg; have hnb33 := NB307_305.out; have hnc33 := NB305_307.out; obtain ⟨hcz34_0, hcz34_1, hfz34_0, hfz34_1⟩ := bz2 BK307.out))
    have n0_ : Aside0 (((w32.setCell ⟨gb307, 0, none⟩ (.int .i64 ((rd_T43 l1 x9_1).f0))).setCell ⟨gb307, 1, none⟩ (.int .i64 ((rd_T43 l1 x9_1).f1))).heap[gb305]? = some (.cells #[.slice A0_0 l0_0.length c0_0, .slice A0_1 l0_1.length c0_1, .slice A0_2 l0_2.length c0_2] 48 (0, 0))) := ⟨by (with_reducible repeat (first | refine blk_drewN ?_ _ | refine blk_drew ?_ | refine blk_alloc ?_ _)); refine blk_far ?_ NB305_307.out _; (with_reducible repeat (first | refine blk_drewN ?_ _ | refine blk_drew ?_ | refine blk_alloc ?_ _)); refine blk_far ?_ NB305_307.out _; exact bs BK305.out⟩
    have n1_ : Aside0 (((w32.setCell ⟨gb307, 0, none⟩ (.int .i64 ((rd_T43 l1 x9_1).f0))).setCell ⟨gb307, 1, none⟩ (.int .i64 ((rd_T43 l1 x9_1).f1))).heap[gb307]? = some (.cells #[.int .i64 ((rd_T43 l1 x9_1).f0), .int .i64 ((rd_T43 l1 x9_1).f1)] 43 (0, 0))) := ⟨by (with_reducible repeat (first | refine blk_drewN ?_ _ | refine blk_drew ?_ | refine blk_alloc ?_ _)); refine blk_put (cs := #[.int .i64 ((rd_T43 l1 x9_1).f0), .int .i64 0]) ?_ 1 _ rfl; (with_reducible repeat (first | refine blk_drewN ?_ _ | refine blk_drew ?_ | refine blk_alloc ?_ _)); refine blk_put (cs := #[.int .i64 0, .int .i64 0]) ?_ 0 _ rfl; exact bs BK307.out⟩
    have n2_ : Aside0 (Below w.heap.size w ((w32.setCell ⟨gb307, 0, none⟩ (.int .i64 ((rd_T43 l1 x9_1).f0))).setCell ⟨gb307, 1, none⟩ (.int .i64 ((rd_T43 l1 x9_1).f1)))) := ⟨by repeat (first | (with_reducible first | exact bw HB.out | refine bset ?_ | apply bA | apply bN | apply bD) | exact HB.out)⟩
    (try clear BK305)
    (try clear BK307)
    (try clear HB)
    (try simp only [setCell_drewN])
    generalize ((w32.setCell ⟨gb307, 0, none⟩ (.int .i64 ((rd_T43 l1 x9_1).f0))).setCell ⟨gb307, 1, none⟩ (.int .i64 ((rd_T43 l1 x9_1).f1))) = w35 at n0_ n1_ n2_ ⊢
    have BK305 := n0_
    have BK307 := n1_
    have HB := n2_
    clear n0_ n1_ n2_
    have n0_ := Aside0.mk (blk_drew BK305.out)
    have n1_ := Aside0.mk (blk_drew BK307.out)
    have n2_ := Aside0.mk (below_drew1 HB.out)
    replace BK305 := n0_
    replace BK307 := n1_
    replace HB := n2_
    clear n0_ n1_ n2_
    refine start_ (n := 40) (S := fun w' => w'.cell? ⟨gb307, 0, none⟩ = some (.int .i64 ((rd_T43 l1 x9_1).f0)) ∧ w'.cell? ⟨gb307, 1, none⟩ = some (.int .i64 ((rd_T43 l1 x9_1).f1)) ∧ w'.cell? ⟨gb305, 0, none⟩ = some (.slice A0_0 l0_0.length c0_0) ∧ w'.cell? ⟨gb305, 1, none⟩ = some (.slice A0_1 l0_1.length c0_1) ∧ w'.cell? ⟨gb305, 2, none⟩ = some (.slice A0_2 l0_2.length c0_2)) (ds := []) q33_0 (by kernel_rfl) rfl rfl ⟨(blk_cell BK307.out 0).trans rfl, (blk_cell BK307.out 1).trans rfl, (blk_cell BK305.out 0).trans rfl, (blk_cell BK305.out 1).trans rfl, (blk_cell BK305.out 2).trans rfl⟩ (fun hHeld => ?_); refine with_tabW impl_flat_areArcs.tab4 impl_flat_areArcs.bits4 (fun HT_ HW_ => ?_)
    generalize w35.drew = w36 at BK305 BK307 HB hHeld ⊢
    refine pup_ (i := 0) (N := some 13) HT_ rfl rfl (by kernel_rfl) (fun _ _ _ h => h) (Or.inl ⟨by rfl, by intro w'; go_simp; with_reducible rfl⟩) (by simp only [aq_]; rfl) ?_
    refine pup_ (i := 2) (N := some 15) HT_ rfl rfl (by kernel_rfl) (fun _ _ _ h => h) (Or.inl ⟨by rfl, by intro w'; go_simp; with_reducible rfl⟩) (by simp only [aq_]; rfl) ?_
    refine take_ (i := 1) (N := some 14) (v := ?_) (a' := ?_) q33_3 rfl rfl (take_ofW HT_.out HW_.out (by kernel_rfl)) (fun _ _ _ h => h) (Or.inl ⟨by rfl, ?_⟩) hHeld ?_ ?_
    rotate_left
    ·rintro w' ⟨s0, s1, s2, s3, s4⟩
     go_simp
     with_reducible rfl
    rotate_left
    ·simp only [aq_]
     rfl
    refine take_ (i := 3) (N := some 16) (v := ?_) (a' := ?_) q33_4 rfl rfl (take_ofW HT_.out HW_.out (by kernel_rfl)) (fun _ _ _ h => h) (Or.inl ⟨by rfl, ?_⟩) hHeld ?_ ?_
    rotate_left
    ·rintro w' ⟨s0, s1, s2, s3, s4⟩
     go_simp
     with_reducible rfl
    rotate_left
    ·simp only [aq_]
     rfl
    refine pup_ (i := 4) (N := some 17) HT_ rfl rfl (by kernel_rfl) (fun _ _ _ h => h) (Or.inl ⟨by rfl, by intro w'; go_simp; with_reducible rfl⟩) (by simp only [aq_]; rfl) ?_
    refine one_ (i := 5) (N := some 18) q33_6 rfl rfl (one_of HT_.out (by kernel_rfl)) (by decide) (fun K hK => ?_)
    refine goes_ Try.func30 (by kernel_rfl) rfl #[.int .i64 ((rd_T43 l1 x9_1).f0), .int .i64 (l0_0.length : Int)] (by rfl) rfl rfl (by (try simp only [mA_]); first | done | rfl | (simp only [List.length_drop, List.length_take]; rfl)) ?_
    with_reducible refine (impl_isNumber.calls ((rd_T43 l1 x9_1).f0) (l0_0.length : Int) true _ A7.out).mono ?_
    rintro e w' ⟨rfl, ⟨nd, rfl⟩⟩
    refine ⟨_, rfl, ?_⟩
    refine hK.out _ _ ⟨(blk_cell BK307.out 0).trans rfl, (blk_cell BK307.out 1).trans rfl, (blk_cell BK305.out 0).trans rfl, (blk_cell BK305.out 1).trans rfl, (blk_cell BK305.out 2).trans rfl⟩ (fun hHeld => ?_)
    clear hK K
    refine norm_ (a' := ?_) ?_ ?_
    rotate_left
    ·show Act.put _ (some 18) _ = _
     simp only [aq_]
     rfl
    refine pup_ (i := 6) (N := some 19) HT_ rfl rfl (by kernel_rfl) (fun _ _ _ h => h) (Or.inl ⟨by rfl, by intro w'; go_simp; with_reducible rfl⟩) (by simp only [aq_]; rfl) ?_
    refine pup_ (i := 7) (N := some 20) HT_ rfl rfl (by kernel_rfl) (fun _ _ _ h => h) (Or.inl ⟨by rfl, by intro w'; go_simp; with_reducible rfl⟩) (by simp only [aq_]; rfl) ?_
    refine pup_ (i := 8) (N := some 21) HT_ rfl rfl (by kernel_rfl) (fun _ _ _ h => h) (Or.inl ⟨by rfl, by intro w'; go_simp; with_reducible rfl⟩) (by simp only [aq_]; rfl) ?_
    refine pup_ (i := 10) (N := some 23) HT_ rfl rfl (by kernel_rfl) (fun _ _ _ h => h) (Or.inl ⟨by rfl, by intro w'; go_simp; with_reducible rfl⟩) (by simp only [aq_]; rfl) ?_
    refine take_ (i := 9) (N := some 22) (v := ?_) (a' := ?_) q33_11 rfl rfl (take_ofW HT_.out HW_.out (by kernel_rfl)) (fun _ _ _ h => h) (Or.inl ⟨by rfl, ?_⟩) hHeld ?_ ?_
    rotate_left
    ·rintro w' ⟨s0, s1, s2, s3, s4⟩
     go_simp
     with_reducible rfl
    rotate_left
    ·simp only [aq_]
     rfl
    refine take_ (i := 11) (N := some 24) (v := ?_) (a' := ?_) q33_12 rfl rfl (take_ofW HT_.out HW_.out (by kernel_rfl)) (fun _ _ _ h => h) (Or.inl ⟨by rfl, ?_⟩) hHeld ?_ ?_
    rotate_left
    ·rintro w' ⟨s0, s1, s2, s3, s4⟩
     go_simp
     with_reducible rfl
    rotate_left
    ·simp only [aq_]
     rfl
    refine pup_ (i := 12) (N := some 25) HT_ rfl rfl (by kernel_rfl) (fun _ _ _ h => h) (Or.inl ⟨by rfl, by intro w'; go_simp; with_reducible rfl⟩) (by simp only [aq_]; rfl) ?_
    refine one_ (i := 13) (N := some 26) q33_14 rfl rfl (one_of HT_.out (by kernel_rfl)) (by decide) (fun K hK => ?_)
    refine goes_ Try.func30 (by kernel_rfl) rfl #[.int .i64 ((rd_T43 l1 x9_1).f1), .int .i64 (l0_0.length : Int)] (by rfl) rfl rfl (by (try simp only [mA_]); first | done | rfl | (simp only [List.length_drop, List.length_take]; rfl)) ?_
    with_reducible refine (impl_isNumber.calls ((rd_T43 l1 x9_1).f1) (l0_0.length : Int) false _ A9.out).mono ?_
    rintro e w' ⟨rfl, ⟨nd, rfl⟩⟩
    refine ⟨_, rfl, ?_⟩
    refine hK.out _ _ ⟨(blk_cell BK307.out 0).trans rfl, (blk_cell BK307.out 1).trans rfl, (blk_cell BK305.out 0).trans rfl, (blk_cell BK305.out 1).trans rfl, (blk_cell BK305.out 2).trans rfl⟩ (fun hHeld => ?_)
    clear hK K
    refine norm_ (a' := ?_) ?_ ?_
    rotate_left
    ·show Act.put _ (some 26) _ = _
     simp only [aq_]
     rfl
    refine pup_ (i := 14) (N := some 27) HT_ rfl rfl (by kernel_rfl) (fun _ _ _ h => h) (Or.inl ⟨by rfl, by intro w'; go_simp; with_reducible rfl⟩) (by simp only [aq_]; rfl) ?_
    refine pup_ (i := 15) (N := some 28) HT_ rfl rfl (by kernel_rfl) (fun _ _ _ h => h) (Or.inl ⟨by rfl, by intro w'; go_simp; with_reducible rfl⟩) (by simp only [aq_]; rfl) ?_
    refine pup_ (i := 16) (N := some 29) HT_ rfl rfl (by kernel_rfl) (fun _ _ _ h => h) (Or.inl ⟨by rfl, by intro w'; go_simp; with_reducible rfl⟩) (by simp only [aq_]; rfl) ?_
    refine skp_ HT_ 17 (some 30) rfl rfl (by kernel_rfl) (fun _ _ _ h => h) (by rfl) (by simp only [aq_]; rfl) ?_
    refine skp_ HT_ 18 (some 31) rfl rfl (by kernel_rfl) (fun _ _ _ h => h) (by rfl) (by simp only [aq_]; rfl) ?_
    refine skp_ HT_ 19 (some 32) rfl rfl (by kernel_rfl) (fun _ _ _ h => h) (by rfl) (by simp only [aq_]; rfl) ?_
    refine skp_ HT_ 20 (some 33) rfl rfl (by kernel_rfl) (fun _ _ _ h => h) (by rfl) (by simp only [aq_]; rfl) ?_
    refine skp_ HT_ 21 (some 34) rfl rfl (by kernel_rfl) (fun _ _ _ h => h) (by rfl) (by simp only [aq_]; rfl) ?_
    refine pup_ (i := 22) (N := some 35) HT_ rfl rfl (by kernel_rfl) (fun _ _ _ h => h) (Or.inl ⟨by rfl, by intro w'; go_simp; with_reducible rfl⟩) (by simp only [aq_]; rfl) ?_
    refine pup_ (i := 23) (N := some 36) HT_ rfl rfl (by kernel_rfl) (fun _ _ _ h => h) (Or.inl ⟨by rfl, by intro w'; go_simp; with_reducible rfl⟩) (by simp only [aq_]; rfl) ?_
    refine skp_ HT_ 24 (some 37) rfl rfl (by kernel_rfl) (fun _ _ _ h => h) (by rfl) (by simp only [aq_]; rfl) ?_
    refine skp_ HT_ 25 (some 38) rfl rfl (by kernel_rfl) (fun _ _ _ h => h) (by rfl) (by simp only [aq_]; rfl) ?_
    refine skp_ HT_ 26 (some 39) rfl rfl (by kernel_rfl) (fun _ _ _ h => h) (by rfl) (by simp only [aq_]; rfl) ?_
    refine skp_ HT_ 27 (some 40) rfl rfl (by kernel_rfl) (fun _ _ _ h => h) (by rfl) (by simp only [aq_]; rfl) ?_
    refine skp_ HT_ 28 (some 41) rfl rfl (by kernel_rfl) (fun _ _ _ h => h) (by rfl) (by simp only [aq_]; rfl) ?_
    refine skp_ HT_ 29 (some 42) rfl rfl (by kernel_rfl) (fun _ _ _ h => h) (by rfl) (by simp only [aq_]; rfl) ?_
    refine skp_ HT_ 30 (some 43) rfl rfl (by kernel_rfl) (fun _ _ _ h => h) (by rfl) (by simp only [aq_]; rfl) ?_
    refine skp_ HT_ 31 (some 44) rfl rfl (by kernel_rfl) (fun _ _ _ h => h) (by rfl) (by simp only [aq_]; rfl) ?_
    refine skp_ HT_ 32 (some 45) rfl rfl (by kernel_rfl) (fun _ _ _ h => h) (by rfl) (by simp only [aq_]; rfl) ?_
    refine skp_ HT_ 33 (some 46) rfl rfl (by kernel_rfl) (fun _ _ _ h => h) (by rfl) (by simp only [aq_]; rfl) ?_
    refine skp_ HT_ 34 (some 47) rfl rfl (by kernel_rfl) (fun _ _ _ h => h) (by rfl) (by simp only [aq_]; rfl) ?_
    refine skp_ HT_ 35 (some 48) rfl rfl (by kernel_rfl) (fun _ _ _ h => h) (by rfl) (by simp only [aq_]; rfl) ?_
    refine skp_ HT_ 36 (some 49) rfl rfl (by kernel_rfl) (fun _ _ _ h => h) (by rfl) (by simp only [aq_]; rfl) ?_
    refine skp_ HT_ 37 (some 50) rfl rfl (by kernel_rfl) (fun _ _ _ h => h) (by rfl) (by simp only [aq_]; rfl) ?_
    refine skp_ HT_ 38 (some 51) rfl rfl (by kernel_rfl) (fun _ _ _ h => h) (by rfl) (by simp only [aq_]; rfl) ?_
    refine pup_ (i := 39) (N := some 52) HT_ rfl rfl (by kernel_rfl) (fun _ _ _ h => h) (Or.inl ⟨by rfl, by intro w'; go_simp; with_reducible rfl⟩) (by simp only [aq_]; rfl) ?_
    refine done_ (done_of HT_.out (by kernel_rfl)) ?_
    try go_wp2
    go_ret
    exact ⟨by first | rfl | (simp [errW_none, errW_some] <;> rfl) | (simp [*, errW_none, errW_some] <;> rfl), by repeat (first | (with_reducible first | exact bw HB.out | refine bset ?_ | apply bA | apply bN | apply bD) | exact HB.out)⟩
   subst c10
   have H1 : (if ((rd_T43 l1 x9_1).f0) = ((rd_T43 l1 x9_1).f1) then (some false) else (if 0 ≤ ((rd_T43 l1 x9_1).f0) then (if ((rd_T43 l1 x9_1).f0) < (l0_0.length : Int) then (if 0 ≤ ((rd_T43 l1 x9_1).f1) then (if ((rd_T43 l1 x9_1).f1) < (l0_0.length : Int) then (if ((rd_T62 l0_0 ((rd_T43 l1 x9_1).f0)).f0) = ((rd_T62 l0_0 ((rd_T43 l1 x9_1).f1)).f0) then (impl_flat_areArcs.l0 k1 l1 (l1.length : Int) (wrap64 (x9_1 + 1)) l0_0 l0_1 l0_2) else (some false)) else (none)) else (none)) else (none)) else (none))) = some r := by rw [if_pos rfl] at H; exact H
   clear H
   have H := H1
   clear H1
   by_cases c11 : ((rd_T43 l1 x9_1).f0) = ((rd_T43 l1 x9_1).f1)
   ·rw [if_pos c11] at H
    have c11b0 : (((rd_T43 l1 x9_1).f0) == ((rd_T43 l1 x9_1).f1)) = true := beq_iff_eq.mpr c11
    have c11b1 : (((rd_T43 l1 x9_1).f0) != ((rd_T43 l1 x9_1).f1)) = false := bne_eq_false_iff_eq.mpr c11
    clear c11
    obtain rfl := Option.some.inj H
    have p306 : 0 ≤ (x9_1 : Int) := of_decide_eq_true (by first | (with_reducible assumption) | assumption)
    have q306 : x9_1 < (l1.length : Int) := of_decide_eq_true (by first | (with_reducible assumption) | assumption)
    obtain ⟨ad306, e306, hx306_0, hx306_1⟩ := at_T43 HR1.out x9_1 p306 q306
    cases e306
    replace hx306_0 := (HB.out.cell (World.block_lt_of_cell? w _ hx306_0)).trans hx306_0
    replace hx306_1 := (HB.out.cell (World.block_lt_of_cell? w _ hx306_1)).trans hx306_1
    replace p306 := eq_true p306
    replace q306 := eq_true q306
    try go_wp2_with (first | ((with_reducible refine gate_dst (N := 6) rfl ?_); (try (refine gate_guard (by rfl) ?_; dsimp only)); refine box_event ?hg (N := 6) ?hd (cs := #[.int .i64 0, .int .i64 0]) (t := 43) ?hr ?_; (case hd => rfl); (case hg => rfl); (case hr => first | (go_simp; done) | (go_simp; rfl)); intro gb307 hg w12 hbox hb; have n0_ := Aside0.mk (blk_below (bs BK305.out) hb); have n1_ := Aside0.mk (below_step (by repeat (first | (with_reducible first | exact bw HB.out | refine bset ?_ | apply bA | apply bN | apply bD) | exact HB.out)) hb); have n2_ := Aside0.mk (hbox); have n3_ := Aside0.mk ((by rw [hg]; exact (below_size (by repeat (first | (with_reducible first | exact bw HB.out | refine bset ?_ | apply bA | apply bN | apply bD) | exact HB.out))) : w.heap.size ≤ gb307)); have n4_ := Aside0.mk ((by rw [hg]; exact (below_size (by repeat (first | (with_reducible first | exact bw HB.out | refine bset ?_ | apply bA | apply bN | apply bD) | exact HB.out))) : w.heap.size ≤ gb307)); have n5_ := ne_ hg BK305.out; have n6_ := en_ hg BK305.out; replace BK305 := n0_; replace HB := n1_; have BK307 := n2_; have GW307 := n3_; have GE307 := n4_; have NB305_307 := n5_; have NB307_305 := n6_; clear n0_ n1_ n2_ n3_ n4_ n5_ n6_; clear hb hbox hg; have hnb13 := NB307_305.out; have hnc13 := NB305_307.out; obtain ⟨hcz14_0, hcz14_1, hfz14_0, hfz14_1⟩ := bz2 BK307.out))
    have n0_ : Aside0 (((w12.setCell ⟨gb307, 0, none⟩ (.int .i64 ((rd_T43 l1 x9_1).f0))).setCell ⟨gb307, 1, none⟩ (.int .i64 ((rd_T43 l1 x9_1).f1))).heap[gb305]? = some (.cells #[.slice A0_0 l0_0.length c0_0, .slice A0_1 l0_1.length c0_1, .slice A0_2 l0_2.length c0_2] 48 (0, 0))) := ⟨by (with_reducible repeat (first | refine blk_drewN ?_ _ | refine blk_drew ?_ | refine blk_alloc ?_ _)); refine blk_far ?_ NB305_307.out _; (with_reducible repeat (first | refine blk_drewN ?_ _ | refine blk_drew ?_ | refine blk_alloc ?_ _)); refine blk_far ?_ NB305_307.out _; exact bs BK305.out⟩
    have n1_ : Aside0 (((w12.setCell ⟨gb307, 0, none⟩ (.int .i64 ((rd_T43 l1 x9_1).f0))).setCell ⟨gb307, 1, none⟩ (.int .i64 ((rd_T43 l1 x9_1).f1))).heap[gb307]? = some (.cells #[.int .i64 ((rd_T43 l1 x9_1).f0), .int .i64 ((rd_T43 l1 x9_1).f1)] 43 (0, 0))) := ⟨by (with_reducible repeat (first | refine blk_drewN ?_ _ | refine blk_drew ?_ | refine blk_alloc ?_ _)); refine blk_put (cs := #[.int .i64 ((rd_T43 l1 x9_1).f0), .int .i64 0]) ?_ 1 _ rfl; (with_reducible repeat (first | refine blk_drewN ?_ _ | refine blk_drew ?_ | refine blk_alloc ?_ _)); refine blk_put (cs := #[.int .i64 0, .int .i64 0]) ?_ 0 _ rfl; exact bs BK307.out⟩
    have n2_ : Aside0 (Below w.heap.size w ((w12.setCell ⟨gb307, 0, none⟩ (.int .i64 ((rd_T43 l1 x9_1).f0))).setCell ⟨gb307, 1, none⟩ (.int .i64 ((rd_T43 l1 x9_1).f1)))) := ⟨by repeat (first | (with_reducible first | exact bw HB.out | refine bset ?_ | apply bA | apply bN | apply bD) | exact HB.out)⟩
    (try clear BK305)
    (try clear BK307)
    (try clear HB)
    (try simp only [setCell_drewN])
    generalize ((w12.setCell ⟨gb307, 0, none⟩ (.int .i64 ((rd_T43 l1 x9_1).f0))).setCell ⟨gb307, 1, none⟩ (.int .i64 ((rd_T43 l1 x9_1).f1))) = w15 at n0_ n1_ n2_ ⊢
    have BK305 := n0_
    have BK307 := n1_
    have HB := n2_
    clear n0_ n1_ n2_
    have n0_ := Aside0.mk (blk_drew BK305.out)
    have n1_ := Aside0.mk (blk_drew BK307.out)
    have n2_ := Aside0.mk (below_drew1 HB.out)
    replace BK305 := n0_
    replace BK307 := n1_
    replace HB := n2_
    clear n0_ n1_ n2_
    refine start_ (n := 40) (S := fun w' => w'.cell? ⟨gb307, 0, none⟩ = some (.int .i64 ((rd_T43 l1 x9_1).f0)) ∧ w'.cell? ⟨gb307, 1, none⟩ = some (.int .i64 ((rd_T43 l1 x9_1).f1)) ∧ w'.cell? ⟨gb305, 0, none⟩ = some (.slice A0_0 l0_0.length c0_0) ∧ w'.cell? ⟨gb305, 1, none⟩ = some (.slice A0_1 l0_1.length c0_1) ∧ w'.cell? ⟨gb305, 2, none⟩ = some (.slice A0_2 l0_2.length c0_2)) (ds := []) q33_0 (by kernel_rfl) rfl rfl ⟨(blk_cell BK307.out 0).trans rfl, (blk_cell BK307.out 1).trans rfl, (blk_cell BK305.out 0).trans rfl, (blk_cell BK305.out 1).trans rfl, (blk_cell BK305.out 2).trans rfl⟩ (fun hHeld => ?_); refine with_tabW impl_flat_areArcs.tab4 impl_flat_areArcs.bits4 (fun HT_ HW_ => ?_)
    generalize w15.drew = w16 at BK305 BK307 HB hHeld ⊢
    refine pup_ (i := 0) (N := some 13) HT_ rfl rfl (by kernel_rfl) (fun _ _ _ h => h) (Or.inl ⟨by rfl, by intro w'; go_simp; with_reducible rfl⟩) (by simp only [aq_]; rfl) ?_
    refine pup_ (i := 2) (N := some 15) HT_ rfl rfl (by kernel_rfl) (fun _ _ _ h => h) (Or.inl ⟨by rfl, by intro w'; go_simp; with_reducible rfl⟩) (by simp only [aq_]; rfl) ?_
    refine take_ (i := 1) (N := some 14) (v := ?_) (a' := ?_) q33_3 rfl rfl (take_ofW HT_.out HW_.out (by kernel_rfl)) (fun _ _ _ h => h) (Or.inl ⟨by rfl, ?_⟩) hHeld ?_ ?_
    rotate_left
    ·rintro w' ⟨s0, s1, s2, s3, s4⟩
     go_simp
     with_reducible rfl
    rotate_left
    ·simp only [aq_]
     rfl
    refine take_ (i := 3) (N := some 16) (v := ?_) (a' := ?_) q33_4 rfl rfl (take_ofW HT_.out HW_.out (by kernel_rfl)) (fun _ _ _ h => h) (Or.inl ⟨by rfl, ?_⟩) hHeld ?_ ?_
    rotate_left
    ·rintro w' ⟨s0, s1, s2, s3, s4⟩
     go_simp
     with_reducible rfl
    rotate_left
    ·simp only [aq_]
     rfl
    refine pup_ (i := 4) (N := some 17) HT_ rfl rfl (by kernel_rfl) (fun _ _ _ h => h) (Or.inl ⟨by rfl, by intro w'; go_simp; with_reducible rfl⟩) (by simp only [aq_]; rfl) ?_
    refine one_ (i := 5) (N := some 18) q33_6 rfl rfl (one_of HT_.out (by kernel_rfl)) (by decide) (fun K hK => ?_)
    refine goes_ Try.func30 (by kernel_rfl) rfl #[.int .i64 ((rd_T43 l1 x9_1).f0), .int .i64 (l0_0.length : Int)] (by rfl) rfl rfl (by (try simp only [mA_]); first | done | rfl | (simp only [List.length_drop, List.length_take]; rfl)) ?_
    with_reducible refine (impl_isNumber.calls ((rd_T43 l1 x9_1).f0) (l0_0.length : Int) true _ A7.out).mono ?_
    rintro e w' ⟨rfl, ⟨nd, rfl⟩⟩
    refine ⟨_, rfl, ?_⟩
    refine hK.out _ _ ⟨(blk_cell BK307.out 0).trans rfl, (blk_cell BK307.out 1).trans rfl, (blk_cell BK305.out 0).trans rfl, (blk_cell BK305.out 1).trans rfl, (blk_cell BK305.out 2).trans rfl⟩ (fun hHeld => ?_)
    clear hK K
    refine norm_ (a' := ?_) ?_ ?_
    rotate_left
    ·show Act.put _ (some 18) _ = _
     simp only [aq_]
     rfl
    refine pup_ (i := 6) (N := some 19) HT_ rfl rfl (by kernel_rfl) (fun _ _ _ h => h) (Or.inl ⟨by rfl, by intro w'; go_simp; with_reducible rfl⟩) (by simp only [aq_]; rfl) ?_
    refine pup_ (i := 7) (N := some 20) HT_ rfl rfl (by kernel_rfl) (fun _ _ _ h => h) (Or.inl ⟨by rfl, by intro w'; go_simp; with_reducible rfl⟩) (by simp only [aq_]; rfl) ?_
    refine pup_ (i := 8) (N := some 21) HT_ rfl rfl (by kernel_rfl) (fun _ _ _ h => h) (Or.inl ⟨by rfl, by intro w'; go_simp; with_reducible rfl⟩) (by simp only [aq_]; rfl) ?_
    refine pup_ (i := 10) (N := some 23) HT_ rfl rfl (by kernel_rfl) (fun _ _ _ h => h) (Or.inl ⟨by rfl, by intro w'; go_simp; with_reducible rfl⟩) (by simp only [aq_]; rfl) ?_
    refine take_ (i := 9) (N := some 22) (v := ?_) (a' := ?_) q33_11 rfl rfl (take_ofW HT_.out HW_.out (by kernel_rfl)) (fun _ _ _ h => h) (Or.inl ⟨by rfl, ?_⟩) hHeld ?_ ?_
    rotate_left
    ·rintro w' ⟨s0, s1, s2, s3, s4⟩
     go_simp
     with_reducible rfl
    rotate_left
    ·simp only [aq_]
     rfl
    refine take_ (i := 11) (N := some 24) (v := ?_) (a' := ?_) q33_12 rfl rfl (take_ofW HT_.out HW_.out (by kernel_rfl)) (fun _ _ _ h => h) (Or.inl ⟨by rfl, ?_⟩) hHeld ?_ ?_
    rotate_left
    ·rintro w' ⟨s0, s1, s2, s3, s4⟩
     go_simp
     with_reducible rfl
    rotate_left
    ·simp only [aq_]
     rfl
    refine pup_ (i := 12) (N := some 25) HT_ rfl rfl (by kernel_rfl) (fun _ _ _ h => h) (Or.inl ⟨by rfl, by intro w'; go_simp; with_reducible rfl⟩) (by simp only [aq_]; rfl) ?_
    refine one_ (i := 13) (N := some 26) q33_14 rfl rfl (one_of HT_.out (by kernel_rfl)) (by decide) (fun K hK => ?_)
    refine goes_ Try.func30 (by kernel_rfl) rfl #[.int .i64 ((rd_T43 l1 x9_1).f1), .int .i64 (l0_0.length : Int)] (by rfl) rfl rfl (by (try simp only [mA_]); first | done | rfl | (simp only [List.length_drop, List.length_take]; rfl)) ?_
    with_reducible refine (impl_isNumber.calls ((rd_T43 l1 x9_1).f1) (l0_0.length : Int) true _ A9.out).mono ?_
    rintro e w' ⟨rfl, ⟨nd, rfl⟩⟩
    refine ⟨_, rfl, ?_⟩
    refine hK.out _ _ ⟨(blk_cell BK307.out 0).trans rfl, (blk_cell BK307.out 1).trans rfl, (blk_cell BK305.out 0).trans rfl, (blk_cell BK305.out 1).trans rfl, (blk_cell BK305.out 2).trans rfl⟩ (fun hHeld => ?_)
    clear hK K
    refine norm_ (a' := ?_) ?_ ?_
    rotate_left
    ·show Act.put _ (some 26) _ = _
     simp only [aq_]
     rfl
    refine pup_ (i := 14) (N := some 27) HT_ rfl rfl (by kernel_rfl) (fun _ _ _ h => h) (Or.inl ⟨by rfl, by intro w'; go_simp; with_reducible rfl⟩) (by simp only [aq_]; rfl) ?_
    refine pup_ (i := 15) (N := some 28) HT_ rfl rfl (by kernel_rfl) (fun _ _ _ h => h) (Or.inl ⟨by rfl, by intro w'; go_simp; with_reducible rfl⟩) (by simp only [aq_]; rfl) ?_
    refine pup_ (i := 16) (N := some 29) HT_ rfl rfl (by kernel_rfl) (fun _ _ _ h => h) (Or.inl ⟨by rfl, by intro w'; go_simp; with_reducible rfl⟩) (by simp only [aq_]; rfl) ?_
    refine pup_ (i := 17) (N := some 30) HT_ rfl rfl (by kernel_rfl) (fun _ _ _ h => h) (Or.inl ⟨by rfl, by intro w'; go_simp; with_reducible rfl⟩) (by simp only [aq_]; rfl) ?_
    refine pup_ (i := 19) (N := some 32) HT_ rfl rfl (by kernel_rfl) (fun _ _ _ h => h) (Or.inl ⟨by rfl, by intro w'; go_simp; with_reducible rfl⟩) (by simp only [aq_]; rfl) ?_
    refine take_ (i := 18) (N := some 31) (v := ?_) (a' := ?_) q33_20 rfl rfl (take_ofW HT_.out HW_.out (by kernel_rfl)) (fun _ _ _ h => h) (Or.inl ⟨by rfl, ?_⟩) hHeld ?_ ?_
    rotate_left
    ·rintro w' ⟨s0, s1, s2, s3, s4⟩
     go_simp
     with_reducible rfl
    rotate_left
    ·simp only [aq_]
     rfl
    refine take_ (i := 20) (N := some 33) (v := ?_) (a' := ?_) q33_21 rfl rfl (take_ofW HT_.out HW_.out (by kernel_rfl)) (fun _ _ _ h => h) (Or.inl ⟨by rfl, ?_⟩) hHeld ?_ ?_
    rotate_left
    ·rintro w' ⟨s0, s1, s2, s3, s4⟩
     go_simp
     with_reducible rfl
    rotate_left
    ·simp only [aq_]
     rfl
    refine pup_ (i := 21) (N := some 34) HT_ rfl rfl (by kernel_rfl) (fun _ _ _ h => h) (Or.inl ⟨by rfl, by intro w'; go_simp; with_reducible rfl⟩) (by simp only [aq_]; rfl) ?_
    refine pup_ (i := 22) (N := some 35) HT_ rfl rfl (by kernel_rfl) (fun _ _ _ h => h) (Or.inl ⟨by rfl, by intro w'; go_simp; with_reducible rfl⟩) (by simp only [aq_]; rfl) ?_
    refine pup_ (i := 23) (N := some 36) HT_ rfl rfl (by kernel_rfl) (fun _ _ _ h => h) (Or.inl ⟨by rfl, by intro w'; go_simp; with_reducible rfl⟩) (by simp only [aq_]; rfl) ?_
    refine skp_ HT_ 24 (some 37) rfl rfl (by kernel_rfl) (fun _ _ _ h => h) (by rfl) (by simp only [aq_]; rfl) ?_
    refine skp_ HT_ 25 (some 38) rfl rfl (by kernel_rfl) (fun _ _ _ h => h) (by rfl) (by simp only [aq_]; rfl) ?_
    refine skp_ HT_ 26 (some 39) rfl rfl (by kernel_rfl) (fun _ _ _ h => h) (by rfl) (by simp only [aq_]; rfl) ?_
    refine skp_ HT_ 27 (some 40) rfl rfl (by kernel_rfl) (fun _ _ _ h => h) (by rfl) (by simp only [aq_]; rfl) ?_
    refine skp_ HT_ 28 (some 41) rfl rfl (by kernel_rfl) (fun _ _ _ h => h) (by rfl) (by simp only [aq_]; rfl) ?_
    refine skp_ HT_ 29 (some 42) rfl rfl (by kernel_rfl) (fun _ _ _ h => h) (by rfl) (by simp only [aq_]; rfl) ?_
    refine skp_ HT_ 30 (some 43) rfl rfl (by kernel_rfl) (fun _ _ _ h => h) (by rfl) (by simp only [aq_]; rfl) ?_
    refine skp_ HT_ 31 (some 44) rfl rfl (by kernel_rfl) (fun _ _ _ h => h) (by rfl) (by simp only [aq_]; rfl) ?_
    refine skp_ HT_ 32 (some 45) rfl rfl (by kernel_rfl) (fun _ _ _ h => h) (by rfl) (by simp only [aq_]; rfl) ?_
    refine skp_ HT_ 33 (some 46) rfl rfl (by kernel_rfl) (fun _ _ _ h => h) (by rfl) (by simp only [aq_]; rfl) ?_
    refine skp_ HT_ 34 (some 47) rfl rfl (by kernel_rfl) (fun _ _ _ h => h) (by rfl) (by simp only [aq_]; rfl) ?_
    refine skp_ HT_ 35 (some 48) rfl rfl (by kernel_rfl) (fun _ _ _ h => h) (by rfl) (by simp only [aq_]; rfl) ?_
    refine skp_ HT_ 36 (some 49) rfl rfl (by kernel_rfl) (fun _ _ _ h => h) (by rfl) (by simp only [aq_]; rfl) ?_
    refine skp_ HT_ 37 (some 50) rfl rfl (by kernel_rfl) (fun _ _ _ h => h) (by rfl) (by simp only [aq_]; rfl) ?_
    refine skp_ HT_ 38 (some 51) rfl rfl (by kernel_rfl) (fun _ _ _ h => h) (by rfl) (by simp only [aq_]; rfl) ?_
    refine pup_ (i := 39) (N := some 52) HT_ rfl rfl (by kernel_rfl) (fun _ _ _ h => h) (Or.inl ⟨by rfl, by intro w'; go_simp; with_reducible rfl⟩) (by simp only [aq_]; rfl) ?_
    refine done_ (done_of HT_.out (by kernel_rfl)) ?_
    try go_wp2
    go_ret
    exact ⟨by first | rfl | (simp [errW_none, errW_some] <;> rfl) | (simp [*, errW_none, errW_some] <;> rfl), by repeat (first | (with_reducible first | exact bw HB.out | refine bset ?_ | apply bA | apply bN | apply bD) | exact HB.out)⟩
   rw [if_neg c11] at H
   have c11b0 : (((rd_T43 l1 x9_1).f0) == ((rd_T43 l1 x9_1).f1)) = false := beq_eq_false_iff_ne.mpr c11
   have c11b1 : (((rd_T43 l1 x9_1).f0) != ((rd_T43 l1 x9_1).f1)) = true := bne_iff_ne.mpr c11
   by_cases c17 : 0 ≤ ((rd_T43 l1 x9_1).f0)
   rotate_left
   ·rw [if_neg c17] at H
    exact absurd H (by simp)
   rw [if_pos c17] at H
   have c17b0 : decide (0 ≤ ((rd_T43 l1 x9_1).f0)) = true := decide_eq_true c17
   clear c17
   by_cases c18 : ((rd_T43 l1 x9_1).f0) < (l0_0.length : Int)
   rotate_left
   ·rw [if_neg c18] at H
    exact absurd H (by simp)
   rw [if_pos c18] at H
   have c18b0 : decide (((rd_T43 l1 x9_1).f0) < (l0_0.length : Int)) = true := decide_eq_true c18
   clear c18
   by_cases c19 : 0 ≤ ((rd_T43 l1 x9_1).f1)
   rotate_left
   ·rw [if_neg c19] at H
    exact absurd H (by simp)
   rw [if_pos c19] at H
   have c19b0 : decide (0 ≤ ((rd_T43 l1 x9_1).f1)) = true := decide_eq_true c19
   clear c19
   by_cases c20 : ((rd_T43 l1 x9_1).f1) < (l0_0.length : Int)
   rotate_left
   ·rw [if_neg c20] at H
    exact absurd H (by simp)
   rw [if_pos c20] at H
   have c20b0 : decide (((rd_T43 l1 x9_1).f1) < (l0_0.length : Int)) = true := decide_eq_true c20
   clear c20
   by_cases c21 : ((rd_T62 l0_0 ((rd_T43 l1 x9_1).f0)).f0) = ((rd_T62 l0_0 ((rd_T43 l1 x9_1).f1)).f0)
   rotate_left
   ·rw [if_neg c21] at H
    have c21b0 : (((rd_T62 l0_0 ((rd_T43 l1 x9_1).f0)).f0) == ((rd_T62 l0_0 ((rd_T43 l1 x9_1).f1)).f0)) = false := beq_eq_false_iff_ne.mpr c21
    have c21b1 : (((rd_T62 l0_0 ((rd_T43 l1 x9_1).f0)).f0) != ((rd_T62 l0_0 ((rd_T43 l1 x9_1).f1)).f0)) = true := bne_iff_ne.mpr c21
    obtain rfl := Option.some.inj H
    have p306 : 0 ≤ (x9_1 : Int) := of_decide_eq_true (by first | (with_reducible assumption) | assumption)
    have q306 : x9_1 < (l1.length : Int) := of_decide_eq_true (by first | (with_reducible assumption) | assumption)
    obtain ⟨ad306, e306, hx306_0, hx306_1⟩ := at_T43 HR1.out x9_1 p306 q306
    cases e306
    replace hx306_0 := (HB.out.cell (World.block_lt_of_cell? w _ hx306_0)).trans hx306_0
    replace hx306_1 := (HB.out.cell (World.block_lt_of_cell? w _ hx306_1)).trans hx306_1
    replace p306 := eq_true p306
    replace q306 := eq_true q306
    try go_wp2_with (first | ((with_reducible refine gate_dst (N := 6) rfl ?_); (try (refine gate_guard (by rfl) ?_; dsimp only)); refine box_event ?hg (N := 6) ?hd (cs := #[.int .i64 0, .int .i64 0]) (t := 43) ?hr ?_; (case hd => rfl); (case hg => rfl); (case hr => first | (go_simp; done) | (go_simp; rfl)); intro gb307 hg w27 hbox hb; have n0_ := Aside0.mk (blk_below (bs BK305.out) hb); have n1_ := Aside0.mk (below_step (by repeat (first | (with_reducible first | exact bw HB.out | refine bset ?_ | apply bA | apply bN | apply bD) | exact HB.out)) hb); have n2_ := Aside0.mk (hbox); have n3_ := Aside0.mk ((by rw [hg]; exact (below_size (by repeat (first | (with_reducible first | exact bw HB.out | refine bset ?_ | apply bA | apply bN | apply bD) | exact HB.out))) : w.heap.size ≤ gb307)); have n4_ := Aside0.mk ((by rw [hg]; exact (below_size (by repeat (first | (with_reducible first | exact bw HB.out | refine bset ?_ | apply bA | apply bN | apply bD) | exact HB.out))) : w.heap.size ≤ gb307)); have n5_ := ne_ hg BK305.out; have n6_ := en_ hg BK305.out; replace BK305 := n0_; replace HB := n1_; have BK307 := n2_; have GW307 := n3_; have GE307 := n4_; have NB305_307 := n5_; have NB307_305 := n6_; clear n0_ n1_ n2_ n3_ n4_ n5_ n6_; clear hb hbox hg; have hnb28 := NB307_305.out; have hnc28 := NB305_307.out; obtain ⟨hcz29_0, hcz29_1, hfz29_0, hfz29_1⟩ := bz2 BK307.out))
    have n0_ : Aside0 (((w27.setCell ⟨gb307, 0, none⟩ (.int .i64 ((rd_T43 l1 x9_1).f0))).setCell ⟨gb307, 1, none⟩ (.int .i64 ((rd_T43 l1 x9_1).f1))).heap[gb305]? = some (.cells #[.slice A0_0 l0_0.length c0_0, .slice A0_1 l0_1.length c0_1, .slice A0_2 l0_2.length c0_2] 48 (0, 0))) := ⟨by (with_reducible repeat (first | refine blk_drewN ?_ _ | refine blk_drew ?_ | refine blk_alloc ?_ _)); refine blk_far ?_ NB305_307.out _; (with_reducible repeat (first | refine blk_drewN ?_ _ | refine blk_drew ?_ | refine blk_alloc ?_ _)); refine blk_far ?_ NB305_307.out _; exact bs BK305.out⟩
    have n1_ : Aside0 (((w27.setCell ⟨gb307, 0, none⟩ (.int .i64 ((rd_T43 l1 x9_1).f0))).setCell ⟨gb307, 1, none⟩ (.int .i64 ((rd_T43 l1 x9_1).f1))).heap[gb307]? = some (.cells #[.int .i64 ((rd_T43 l1 x9_1).f0), .int .i64 ((rd_T43 l1 x9_1).f1)] 43 (0, 0))) := ⟨by (with_reducible repeat (first | refine blk_drewN ?_ _ | refine blk_drew ?_ | refine blk_alloc ?_ _)); refine blk_put (cs := #[.int .i64 ((rd_T43 l1 x9_1).f0), .int .i64 0]) ?_ 1 _ rfl; (with_reducible repeat (first | refine blk_drewN ?_ _ | refine blk_drew ?_ | refine blk_alloc ?_ _)); refine blk_put (cs := #[.int .i64 0, .int .i64 0]) ?_ 0 _ rfl; exact bs BK307.out⟩
    have n2_ : Aside0 (Below w.heap.size w ((w27.setCell ⟨gb307, 0, none⟩ (.int .i64 ((rd_T43 l1 x9_1).f0))).setCell ⟨gb307, 1, none⟩ (.int .i64 ((rd_T43 l1 x9_1).f1)))) := ⟨by repeat (first | (with_reducible first | exact bw HB.out | refine bset ?_ | apply bA | apply bN | apply bD) | exact HB.out)⟩
    (try clear BK305)
    (try clear BK307)
    (try clear HB)
    (try simp only [setCell_drewN])
    generalize ((w27.setCell ⟨gb307, 0, none⟩ (.int .i64 ((rd_T43 l1 x9_1).f0))).setCell ⟨gb307, 1, none⟩ (.int .i64 ((rd_T43 l1 x9_1).f1))) = w30 at n0_ n1_ n2_ ⊢
    have BK305 := n0_
    have BK307 := n1_
    have HB := n2_
    clear n0_ n1_ n2_
    have n0_ := Aside0.mk (blk_drew BK305.out)
    have n1_ := Aside0.mk (blk_drew BK307.out)
    have n2_ := Aside0.mk (below_drew1 HB.out)
    replace BK305 := n0_
    replace BK307 := n1_
    replace HB := n2_
    clear n0_ n1_ n2_
    have p310 : 0 ≤ (((rd_T43 l1 x9_1).f0) : Int) := of_decide_eq_true (by first | (with_reducible assumption) | assumption)
    have q310 : ((rd_T43 l1 x9_1).f0) < (l0_0.length : Int) := of_decide_eq_true (by first | (with_reducible assumption) | assumption)
    obtain ⟨ad310, e310, hx310_0, hx310_1⟩ := at_T62 HR0_0.out ((rd_T43 l1 x9_1).f0) p310 q310
    have hw310_1 := hx310_1
    have hw310_0 := hx310_0
    cases e310
    replace hx310_0 := (HB.out.cell (World.block_lt_of_cell? w _ hx310_0)).trans hx310_0
    replace hx310_1 := (HB.out.cell (World.block_lt_of_cell? w _ hx310_1)).trans hx310_1
    replace p310 := eq_true p310
    replace q310 := eq_true q310
    have p311 : 0 ≤ (((rd_T43 l1 x9_1).f1) : Int) := of_decide_eq_true (by first | (with_reducible assumption) | assumption)
    have q311 : ((rd_T43 l1 x9_1).f1) < (l0_0.length : Int) := of_decide_eq_true (by first | (with_reducible assumption) | assumption)
    obtain ⟨ad311, e311, hx311_0, hx311_1⟩ := at_T62 HR0_0.out ((rd_T43 l1 x9_1).f1) p311 q311
    have hw311_1 := hx311_1
    have hw311_0 := hx311_0
    obtain rfl : ad310 = ad311 := (by injection e311)
    replace hx311_0 := (HB.out.cell (World.block_lt_of_cell? w _ hx311_0)).trans hx311_0
    replace hx311_1 := (HB.out.cell (World.block_lt_of_cell? w _ hx311_1)).trans hx311_1
    replace p311 := eq_true p311
    replace q311 := eq_true q311
    refine start_ (n := 40) (S := fun w' => w'.cell? ⟨gb307, 0, none⟩ = some (.int .i64 ((rd_T43 l1 x9_1).f0)) ∧ w'.cell? ⟨gb307, 1, none⟩ = some (.int .i64 ((rd_T43 l1 x9_1).f1)) ∧ w'.cell? ⟨gb305, 0, none⟩ = some (.slice (some ad310) l0_0.length c0_0) ∧ w'.cell? ⟨gb305, 1, none⟩ = some (.slice A0_1 l0_1.length c0_1) ∧ w'.cell? ⟨gb305, 2, none⟩ = some (.slice A0_2 l0_2.length c0_2) ∧ w'.cell? (ad310.add ((((rd_T43 l1 x9_1).f0)).toNat * 2)) = some (.int .i64 ((rd_T62 l0_0 ((rd_T43 l1 x9_1).f0)).f0)) ∧ w'.cell? ⟨(ad310.add ((((rd_T43 l1 x9_1).f0)).toNat * 2)).block, (ad310.add ((((rd_T43 l1 x9_1).f0)).toNat * 2)).off + 1, none⟩ = some (.int .i64 ((rd_T62 l0_0 ((rd_T43 l1 x9_1).f0)).f1)) ∧ w'.cell? (ad310.add ((((rd_T43 l1 x9_1).f1)).toNat * 2)) = some (.int .i64 ((rd_T62 l0_0 ((rd_T43 l1 x9_1).f1)).f0)) ∧ w'.cell? ⟨(ad310.add ((((rd_T43 l1 x9_1).f1)).toNat * 2)).block, (ad310.add ((((rd_T43 l1 x9_1).f1)).toNat * 2)).off + 1, none⟩ = some (.int .i64 ((rd_T62 l0_0 ((rd_T43 l1 x9_1).f1)).f1))) (ds := []) q33_0 (by kernel_rfl) rfl rfl ⟨(blk_cell BK307.out 0).trans rfl, (blk_cell BK307.out 1).trans rfl, (blk_cell BK305.out 0).trans rfl, (blk_cell BK305.out 1).trans rfl, (blk_cell BK305.out 2).trans rfl, (bcl_ HB.out hw310_0 :), (bcl_ HB.out hw310_1 :), (bcl_ HB.out hw311_0 :), (bcl_ HB.out hw311_1 :)⟩ (fun hHeld => ?_); refine with_tabW impl_flat_areArcs.tab4 impl_flat_areArcs.bits4 (fun HT_ HW_ => ?_)
    generalize w30.drew = w31 at BK305 BK307 HB hx310_0 hx310_1 hx311_0 hx311_1 hHeld ⊢
    refine pup_ (i := 0) (N := some 13) HT_ rfl rfl (by kernel_rfl) (fun _ _ _ h => h) (Or.inl ⟨by rfl, by intro w'; go_simp; with_reducible rfl⟩) (by simp only [aq_]; rfl) ?_
    refine pup_ (i := 2) (N := some 15) HT_ rfl rfl (by kernel_rfl) (fun _ _ _ h => h) (Or.inl ⟨by rfl, by intro w'; go_simp; with_reducible rfl⟩) (by simp only [aq_]; rfl) ?_
    refine take_ (i := 1) (N := some 14) (v := ?_) (a' := ?_) q33_3 rfl rfl (take_ofW HT_.out HW_.out (by kernel_rfl)) (fun _ _ _ h => h) (Or.inl ⟨by rfl, ?_⟩) hHeld ?_ ?_
    rotate_left
    ·rintro w' ⟨s0, s1, s2, s3, s4, s5, s6, s7, s8⟩
     go_simp
     with_reducible rfl
    rotate_left
    ·simp only [aq_]
     rfl
    refine take_ (i := 3) (N := some 16) (v := ?_) (a' := ?_) q33_4 rfl rfl (take_ofW HT_.out HW_.out (by kernel_rfl)) (fun _ _ _ h => h) (Or.inl ⟨by rfl, ?_⟩) hHeld ?_ ?_
    rotate_left
    ·rintro w' ⟨s0, s1, s2, s3, s4, s5, s6, s7, s8⟩
     go_simp
     with_reducible rfl
    rotate_left
    ·simp only [aq_]
     rfl
    refine pup_ (i := 4) (N := some 17) HT_ rfl rfl (by kernel_rfl) (fun _ _ _ h => h) (Or.inl ⟨by rfl, by intro w'; go_simp; with_reducible rfl⟩) (by simp only [aq_]; rfl) ?_
    refine one_ (i := 5) (N := some 18) q33_6 rfl rfl (one_of HT_.out (by kernel_rfl)) (by decide) (fun K hK => ?_)
    refine goes_ Try.func30 (by kernel_rfl) rfl #[.int .i64 ((rd_T43 l1 x9_1).f0), .int .i64 (l0_0.length : Int)] (by rfl) rfl rfl (by (try simp only [mA_]); first | done | rfl | (simp only [List.length_drop, List.length_take]; rfl)) ?_
    with_reducible refine (impl_isNumber.calls ((rd_T43 l1 x9_1).f0) (l0_0.length : Int) true _ A7.out).mono ?_
    rintro e w' ⟨rfl, ⟨nd, rfl⟩⟩
    refine ⟨_, rfl, ?_⟩
    refine hK.out _ _ ⟨(blk_cell BK307.out 0).trans rfl, (blk_cell BK307.out 1).trans rfl, (blk_cell BK305.out 0).trans rfl, (blk_cell BK305.out 1).trans rfl, (blk_cell BK305.out 2).trans rfl, (bcl_ HB.out hw310_0 :), (bcl_ HB.out hw310_1 :), (bcl_ HB.out hw311_0 :), (bcl_ HB.out hw311_1 :)⟩ (fun hHeld => ?_)
    clear hK K
    refine norm_ (a' := ?_) ?_ ?_
    rotate_left
    ·show Act.put _ (some 18) _ = _
     simp only [aq_]
     rfl
    refine pup_ (i := 6) (N := some 19) HT_ rfl rfl (by kernel_rfl) (fun _ _ _ h => h) (Or.inl ⟨by rfl, by intro w'; go_simp; with_reducible rfl⟩) (by simp only [aq_]; rfl) ?_
    refine pup_ (i := 7) (N := some 20) HT_ rfl rfl (by kernel_rfl) (fun _ _ _ h => h) (Or.inl ⟨by rfl, by intro w'; go_simp; with_reducible rfl⟩) (by simp only [aq_]; rfl) ?_
    refine pup_ (i := 8) (N := some 21) HT_ rfl rfl (by kernel_rfl) (fun _ _ _ h => h) (Or.inl ⟨by rfl, by intro w'; go_simp; with_reducible rfl⟩) (by simp only [aq_]; rfl) ?_
    refine pup_ (i := 10) (N := some 23) HT_ rfl rfl (by kernel_rfl) (fun _ _ _ h => h) (Or.inl ⟨by rfl, by intro w'; go_simp; with_reducible rfl⟩) (by simp only [aq_]; rfl) ?_
    refine take_ (i := 9) (N := some 22) (v := ?_) (a' := ?_) q33_11 rfl rfl (take_ofW HT_.out HW_.out (by kernel_rfl)) (fun _ _ _ h => h) (Or.inl ⟨by rfl, ?_⟩) hHeld ?_ ?_
    rotate_left
    ·rintro w' ⟨s0, s1, s2, s3, s4, s5, s6, s7, s8⟩
     go_simp
     with_reducible rfl
    rotate_left
    ·simp only [aq_]
     rfl
    refine take_ (i := 11) (N := some 24) (v := ?_) (a' := ?_) q33_12 rfl rfl (take_ofW HT_.out HW_.out (by kernel_rfl)) (fun _ _ _ h => h) (Or.inl ⟨by rfl, ?_⟩) hHeld ?_ ?_
    rotate_left
    ·rintro w' ⟨s0, s1, s2, s3, s4, s5, s6, s7, s8⟩
     go_simp
     with_reducible rfl
    rotate_left
    ·simp only [aq_]
     rfl
    refine pup_ (i := 12) (N := some 25) HT_ rfl rfl (by kernel_rfl) (fun _ _ _ h => h) (Or.inl ⟨by rfl, by intro w'; go_simp; with_reducible rfl⟩) (by simp only [aq_]; rfl) ?_
    refine one_ (i := 13) (N := some 26) q33_14 rfl rfl (one_of HT_.out (by kernel_rfl)) (by decide) (fun K hK => ?_)
    refine goes_ Try.func30 (by kernel_rfl) rfl #[.int .i64 ((rd_T43 l1 x9_1).f1), .int .i64 (l0_0.length : Int)] (by rfl) rfl rfl (by (try simp only [mA_]); first | done | rfl | (simp only [List.length_drop, List.length_take]; rfl)) ?_
    with_reducible refine (impl_isNumber.calls ((rd_T43 l1 x9_1).f1) (l0_0.length : Int) true _ A9.out).mono ?_
    rintro e w' ⟨rfl, ⟨nd, rfl⟩⟩
    refine ⟨_, rfl, ?_⟩
    refine hK.out _ _ ⟨(blk_cell BK307.out 0).trans rfl, (blk_cell BK307.out 1).trans rfl, (blk_cell BK305.out 0).trans rfl, (blk_cell BK305.out 1).trans rfl, (blk_cell BK305.out 2).trans rfl, (bcl_ HB.out hw310_0 :), (bcl_ HB.out hw310_1 :), (bcl_ HB.out hw311_0 :), (bcl_ HB.out hw311_1 :)⟩ (fun hHeld => ?_)
    clear hK K
    refine norm_ (a' := ?_) ?_ ?_
    rotate_left
    ·show Act.put _ (some 26) _ = _
     simp only [aq_]
     rfl
    refine pup_ (i := 14) (N := some 27) HT_ rfl rfl (by kernel_rfl) (fun _ _ _ h => h) (Or.inl ⟨by rfl, by intro w'; go_simp; with_reducible rfl⟩) (by simp only [aq_]; rfl) ?_
    refine pup_ (i := 15) (N := some 28) HT_ rfl rfl (by kernel_rfl) (fun _ _ _ h => h) (Or.inl ⟨by rfl, by intro w'; go_simp; with_reducible rfl⟩) (by simp only [aq_]; rfl) ?_
    refine pup_ (i := 16) (N := some 29) HT_ rfl rfl (by kernel_rfl) (fun _ _ _ h => h) (Or.inl ⟨by rfl, by intro w'; go_simp; with_reducible rfl⟩) (by simp only [aq_]; rfl) ?_
    refine pup_ (i := 17) (N := some 30) HT_ rfl rfl (by kernel_rfl) (fun _ _ _ h => h) (Or.inl ⟨by rfl, by intro w'; go_simp; with_reducible rfl⟩) (by simp only [aq_]; rfl) ?_
    refine pup_ (i := 19) (N := some 32) HT_ rfl rfl (by kernel_rfl) (fun _ _ _ h => h) (Or.inl ⟨by rfl, by intro w'; go_simp; with_reducible rfl⟩) (by simp only [aq_]; rfl) ?_
    refine take_ (i := 18) (N := some 31) (v := ?_) (a' := ?_) q33_20 rfl rfl (take_ofW HT_.out HW_.out (by kernel_rfl)) (fun _ _ _ h => h) (Or.inl ⟨by rfl, ?_⟩) hHeld ?_ ?_
    rotate_left
    ·rintro w' ⟨s0, s1, s2, s3, s4, s5, s6, s7, s8⟩
     go_simp
     with_reducible rfl
    rotate_left
    ·simp only [aq_]
     rfl
    refine take_ (i := 20) (N := some 33) (v := ?_) (a' := ?_) q33_21 rfl rfl (take_ofW HT_.out HW_.out (by kernel_rfl)) (fun _ _ _ h => h) (Or.inl ⟨by rfl, ?_⟩) hHeld ?_ ?_
    rotate_left
    ·rintro w' ⟨s0, s1, s2, s3, s4, s5, s6, s7, s8⟩
     go_simp
     with_reducible rfl
    rotate_left
    ·simp only [aq_]
     rfl
    refine pup_ (i := 21) (N := some 34) HT_ rfl rfl (by kernel_rfl) (fun _ _ _ h => h) (Or.inl ⟨by rfl, by intro w'; go_simp; with_reducible rfl⟩) (by simp only [aq_]; rfl) ?_
    refine pup_ (i := 22) (N := some 35) HT_ rfl rfl (by kernel_rfl) (fun _ _ _ h => h) (Or.inl ⟨by rfl, by intro w'; go_simp; with_reducible rfl⟩) (by simp only [aq_]; rfl) ?_
    refine pup_ (i := 23) (N := some 36) HT_ rfl rfl (by kernel_rfl) (fun _ _ _ h => h) (Or.inl ⟨by rfl, by intro w'; go_simp; with_reducible rfl⟩) (by simp only [aq_]; rfl) ?_
    refine pup_ (i := 24) (N := some 37) HT_ rfl rfl (by kernel_rfl) (fun _ _ _ h => h) (Or.inl ⟨by rfl, by intro w'; go_simp; with_reducible rfl⟩) (by simp only [aq_]; rfl) ?_
    refine pup_ (i := 26) (N := some 39) HT_ rfl rfl (by kernel_rfl) (fun _ _ _ h => h) (Or.inl ⟨by rfl, by intro w'; go_simp; with_reducible rfl⟩) (by simp only [aq_]; rfl) ?_
    refine pup_ (i := 31) (N := some 44) HT_ rfl rfl (by kernel_rfl) (fun _ _ _ h => h) (Or.inl ⟨by rfl, by intro w'; go_simp; with_reducible rfl⟩) (by simp only [aq_]; rfl) ?_
    refine pup_ (i := 33) (N := some 46) HT_ rfl rfl (by kernel_rfl) (fun _ _ _ h => h) (Or.inl ⟨by rfl, by intro w'; go_simp; with_reducible rfl⟩) (by simp only [aq_]; rfl) ?_
    refine take_ (i := 25) (N := some 38) (v := ?_) (a' := ?_) q33_44 rfl rfl (take_ofW HT_.out HW_.out (by kernel_rfl)) (fun _ _ _ h => h) (Or.inl ⟨by rfl, ?_⟩) hHeld ?_ ?_
    rotate_left
    ·rintro w' ⟨s0, s1, s2, s3, s4, s5, s6, s7, s8⟩
     go_simp
     with_reducible rfl
    rotate_left
    ·simp only [aq_]
     rfl
    refine take_ (i := 27) (N := some 40) (v := ?_) (a' := ?_) q33_45 rfl rfl (take_ofW HT_.out HW_.out (by kernel_rfl)) (fun _ _ _ h => h) (Or.inl ⟨by rfl, ?_⟩) hHeld ?_ ?_
    rotate_left
    ·rintro w' ⟨s0, s1, s2, s3, s4, s5, s6, s7, s8⟩
     go_simp
     with_reducible rfl
    rotate_left
    ·simp only [aq_]
     rfl
    refine pup_ (i := 28) (N := some 41) HT_ rfl rfl (by kernel_rfl) (fun _ _ _ h => h) (Or.inl ⟨by rfl, by intro w'; go_simp; with_reducible rfl⟩) (by simp only [aq_]; rfl) ?_
    refine pup_ (i := 29) (N := some 42) HT_ rfl rfl (by kernel_rfl) (fun _ _ _ h => h) (Or.inl ⟨by rfl, by intro w'; go_simp; with_reducible rfl⟩) (by simp only [aq_]; rfl) ?_
    refine take_ (i := 30) (N := some 43) (v := ?_) (a' := ?_) q33_48 rfl rfl (take_ofW HT_.out HW_.out (by kernel_rfl)) (fun _ _ _ h => h) (Or.inl ⟨by rfl, ?_⟩) hHeld ?_ ?_
    rotate_left
    ·rintro w' ⟨s0, s1, s2, s3, s4, s5, s6, s7, s8⟩
     go_simp
     with_reducible rfl
    rotate_left
    ·simp only [aq_]
     rfl
    refine take_ (i := 32) (N := some 45) (v := ?_) (a' := ?_) q33_34 rfl rfl (take_ofW HT_.out HW_.out (by kernel_rfl)) (fun _ _ _ h => h) (Or.inl ⟨by rfl, ?_⟩) hHeld ?_ ?_
    rotate_left
    ·rintro w' ⟨s0, s1, s2, s3, s4, s5, s6, s7, s8⟩
     go_simp
     with_reducible rfl
    rotate_left
    ·simp only [aq_]
     rfl
    refine take_ (i := 34) (N := some 47) (v := ?_) (a' := ?_) q33_35 rfl rfl (take_ofW HT_.out HW_.out (by kernel_rfl)) (fun _ _ _ h => h) (Or.inl ⟨by rfl, ?_⟩) hHeld ?_ ?_
    rotate_left
    ·rintro w' ⟨s0, s1, s2, s3, s4, s5, s6, s7, s8⟩
     go_simp
     with_reducible rfl
    rotate_left
    ·simp only [aq_]
     rfl
    refine pup_ (i := 35) (N := some 48) HT_ rfl rfl (by kernel_rfl) (fun _ _ _ h => h) (Or.inl ⟨by rfl, by intro w'; go_simp; with_reducible rfl⟩) (by simp only [aq_]; rfl) ?_
    refine pup_ (i := 36) (N := some 49) HT_ rfl rfl (by kernel_rfl) (fun _ _ _ h => h) (Or.inl ⟨by rfl, by intro w'; go_simp; with_reducible rfl⟩) (by simp only [aq_]; rfl) ?_
    refine take_ (i := 37) (N := some 50) (v := ?_) (a' := ?_) q33_38 rfl rfl (take_ofW HT_.out HW_.out (by kernel_rfl)) (fun _ _ _ h => h) (Or.inl ⟨by rfl, ?_⟩) hHeld ?_ ?_
    rotate_left
    ·rintro w' ⟨s0, s1, s2, s3, s4, s5, s6, s7, s8⟩
     go_simp
     with_reducible rfl
    rotate_left
    ·simp only [aq_]
     rfl
    refine pup_ (i := 38) (N := some 51) HT_ rfl rfl (by kernel_rfl) (fun _ _ _ h => h) (Or.inl ⟨by rfl, by intro w'; go_simp; with_reducible rfl⟩) (by simp only [aq_]; rfl) ?_
    refine pup_ (i := 39) (N := some 52) HT_ rfl rfl (by kernel_rfl) (fun _ _ _ h => h) (Or.inl ⟨by rfl, by intro w'; go_simp; with_reducible rfl⟩) (by simp only [aq_]; rfl) ?_
    refine done_ (done_of HT_.out (by kernel_rfl)) ?_
    try go_wp2
    go_ret
    exact ⟨by first | rfl | (simp [errW_none, errW_some] <;> rfl) | (simp [*, errW_none, errW_some] <;> rfl), by repeat (first | (with_reducible first | exact bw HB.out | refine bset ?_ | apply bA | apply bN | apply bD) | exact HB.out)⟩
   rw [if_pos c21] at H
   have c21b0 : (((rd_T62 l0_0 ((rd_T43 l1 x9_1).f0)).f0) == ((rd_T62 l0_0 ((rd_T43 l1 x9_1).f1)).f0)) = true := beq_iff_eq.mpr c21
   have c21b1 : (((rd_T62 l0_0 ((rd_T43 l1 x9_1).f0)).f0) != ((rd_T62 l0_0 ((rd_T43 l1 x9_1).f1)).f0)) = false := bne_eq_false_iff_eq.mpr c21
   clear c21
   have H' := Aside0.mk H
   clear H
   have p306 : 0 ≤ (x9_1 : Int) := of_decide_eq_true (by first | (with_reducible assumption) | assumption)
   have q306 : x9_1 < (l1.length : Int) := of_decide_eq_true (by first | (with_reducible assumption) | assumption)
   obtain ⟨ad306, e306, hx306_0, hx306_1⟩ := at_T43 HR1.out x9_1 p306 q306
   cases e306
   replace hx306_0 := (HB.out.cell (World.block_lt_of_cell? w _ hx306_0)).trans hx306_0
   replace hx306_1 := (HB.out.cell (World.block_lt_of_cell? w _ hx306_1)).trans hx306_1
   replace p306 := eq_true p306
   replace q306 := eq_true q306
   try go_wp2_with (first | ((with_reducible refine gate_dst (N := 6) rfl ?_); (try (refine gate_guard (by rfl) ?_; dsimp only)); refine box_event ?hg (N := 6) ?hd (cs := #[.int .i64 0, .int .i64 0]) (t := 43) ?hr ?_; (case hd => rfl); (case hg => rfl); (case hr => first | (go_simp; done) | (go_simp; rfl)); intro gb307 hg w22 hbox hb; have n0_ := Aside0.mk (blk_below (bs BK305.out) hb); have n1_ := Aside0.mk (below_step (by repeat (first | (with_reducible first | exact bw HB.out | refine bset ?_ | apply bA | apply bN | apply bD) | exact HB.out)) hb); have n2_ := Aside0.mk (hbox); have n3_ := Aside0.mk ((by rw [hg]; exact (below_size (by repeat (first | (with_reducible first | exact bw HB.out | refine bset ?_ | apply bA | apply bN | apply bD) | exact HB.out))) : w.heap.size ≤ gb307)); have n4_ := Aside0.mk ((by rw [hg]; exact (below_size (by repeat (first | (with_reducible first | exact bw HB.out | refine bset ?_ | apply bA | apply bN | apply bD) | exact HB.out))) : w.heap.size ≤ gb307)); have n5_ := ne_ hg BK305.out; have n6_ := en_ hg BK305.out; replace BK305 := n0_; replace HB := n1_; have BK307 := n2_; have GW307 := n3_; have GE307 := n4_; have NB305_307 := n5_; have NB307_305 := n6_; clear n0_ n1_ n2_ n3_ n4_ n5_ n6_; clear hb hbox hg; have hnb23 := NB307_305.out; have hnc23 := NB305_307.out; obtain ⟨hcz24_0, hcz24_1, hfz24_0, hfz24_1⟩ := bz2 BK307.out))
   have n0_ : Aside0 (((w22.setCell ⟨gb307, 0, none⟩ (.int .i64 ((rd_T43 l1 x9_1).f0))).setCell ⟨gb307, 1, none⟩ (.int .i64 ((rd_T43 l1 x9_1).f1))).heap[gb305]? = some (.cells #[.slice A0_0 l0_0.length c0_0, .slice A0_1 l0_1.length c0_1, .slice A0_2 l0_2.length c0_2] 48 (0, 0))) := ⟨by (with_reducible repeat (first | refine blk_drewN ?_ _ | refine blk_drew ?_ | refine blk_alloc ?_ _)); refine blk_far ?_ NB305_307.out _; (with_reducible repeat (first | refine blk_drewN ?_ _ | refine blk_drew ?_ | refine blk_alloc ?_ _)); refine blk_far ?_ NB305_307.out _; exact bs BK305.out⟩
   have n1_ : Aside0 (((w22.setCell ⟨gb307, 0, none⟩ (.int .i64 ((rd_T43 l1 x9_1).f0))).setCell ⟨gb307, 1, none⟩ (.int .i64 ((rd_T43 l1 x9_1).f1))).heap[gb307]? = some (.cells #[.int .i64 ((rd_T43 l1 x9_1).f0), .int .i64 ((rd_T43 l1 x9_1).f1)] 43 (0, 0))) := ⟨by (with_reducible repeat (first | refine blk_drewN ?_ _ | refine blk_drew ?_ | refine blk_alloc ?_ _)); refine blk_put (cs := #[.int .i64 ((rd_T43 l1 x9_1).f0), .int .i64 0]) ?_ 1 _ rfl; (with_reducible repeat (first | refine blk_drewN ?_ _ | refine blk_drew ?_ | refine blk_alloc ?_ _)); refine blk_put (cs := #[.int .i64 0, .int .i64 0]) ?_ 0 _ rfl; exact bs BK307.out⟩
   have n2_ : Aside0 (Below w.heap.size w ((w22.setCell ⟨gb307, 0, none⟩ (.int .i64 ((rd_T43 l1 x9_1).f0))).setCell ⟨gb307, 1, none⟩ (.int .i64 ((rd_T43 l1 x9_1).f1)))) := ⟨by repeat (first | (with_reducible first | exact bw HB.out | refine bset ?_ | apply bA | apply bN | apply bD) | exact HB.out)⟩
   (try clear BK305)
   (try clear BK307)
   (try clear HB)
   (try simp only [setCell_drewN])
   generalize ((w22.setCell ⟨gb307, 0, none⟩ (.int .i64 ((rd_T43 l1 x9_1).f0))).setCell ⟨gb307, 1, none⟩ (.int .i64 ((rd_T43 l1 x9_1).f1))) = w25 at n0_ n1_ n2_ ⊢
   have BK305 := n0_
   have BK307 := n1_
   have HB := n2_
   clear n0_ n1_ n2_
   have n0_ := Aside0.mk (blk_drew BK305.out)
   have n1_ := Aside0.mk (blk_drew BK307.out)
   have n2_ := Aside0.mk (below_drew1 HB.out)
   replace BK305 := n0_
   replace BK307 := n1_
   replace HB := n2_
   clear n0_ n1_ n2_
   have p310 : 0 ≤ (((rd_T43 l1 x9_1).f0) : Int) := of_decide_eq_true (by first | (with_reducible assumption) | assumption)
   have q310 : ((rd_T43 l1 x9_1).f0) < (l0_0.length : Int) := of_decide_eq_true (by first | (with_reducible assumption) | assumption)
   obtain ⟨ad310, e310, hx310_0, hx310_1⟩ := at_T62 HR0_0.out ((rd_T43 l1 x9_1).f0) p310 q310
   have hw310_1 := hx310_1
   have hw310_0 := hx310_0
   cases e310
   replace hx310_0 := (HB.out.cell (World.block_lt_of_cell? w _ hx310_0)).trans hx310_0
   replace hx310_1 := (HB.out.cell (World.block_lt_of_cell? w _ hx310_1)).trans hx310_1
   replace p310 := eq_true p310
   replace q310 := eq_true q310
   have p311 : 0 ≤ (((rd_T43 l1 x9_1).f1) : Int) := of_decide_eq_true (by first | (with_reducible assumption) | assumption)
   have q311 : ((rd_T43 l1 x9_1).f1) < (l0_0.length : Int) := of_decide_eq_true (by first | (with_reducible assumption) | assumption)
   obtain ⟨ad311, e311, hx311_0, hx311_1⟩ := at_T62 HR0_0.out ((rd_T43 l1 x9_1).f1) p311 q311
   have hw311_1 := hx311_1
   have hw311_0 := hx311_0
   obtain rfl : ad310 = ad311 := (by injection e311)
   replace hx311_0 := (HB.out.cell (World.block_lt_of_cell? w _ hx311_0)).trans hx311_0
   replace hx311_1 := (HB.out.cell (World.block_lt_of_cell? w _ hx311_1)).trans hx311_1
   replace p311 := eq_true p311
   replace q311 := eq_true q311
   refine start_ (n := 40) (S := fun w' => w'.cell? ⟨gb307, 0, none⟩ = some (.int .i64 ((rd_T43 l1 x9_1).f0)) ∧ w'.cell? ⟨gb307, 1, none⟩ = some (.int .i64 ((rd_T43 l1 x9_1).f1)) ∧ w'.cell? ⟨gb305, 0, none⟩ = some (.slice (some ad310) l0_0.length c0_0) ∧ w'.cell? ⟨gb305, 1, none⟩ = some (.slice A0_1 l0_1.length c0_1) ∧ w'.cell? ⟨gb305, 2, none⟩ = some (.slice A0_2 l0_2.length c0_2) ∧ w'.cell? (ad310.add ((((rd_T43 l1 x9_1).f0)).toNat * 2)) = some (.int .i64 ((rd_T62 l0_0 ((rd_T43 l1 x9_1).f0)).f0)) ∧ w'.cell? ⟨(ad310.add ((((rd_T43 l1 x9_1).f0)).toNat * 2)).block, (ad310.add ((((rd_T43 l1 x9_1).f0)).toNat * 2)).off + 1, none⟩ = some (.int .i64 ((rd_T62 l0_0 ((rd_T43 l1 x9_1).f0)).f1)) ∧ w'.cell? (ad310.add ((((rd_T43 l1 x9_1).f1)).toNat * 2)) = some (.int .i64 ((rd_T62 l0_0 ((rd_T43 l1 x9_1).f1)).f0)) ∧ w'.cell? ⟨(ad310.add ((((rd_T43 l1 x9_1).f1)).toNat * 2)).block, (ad310.add ((((rd_T43 l1 x9_1).f1)).toNat * 2)).off + 1, none⟩ = some (.int .i64 ((rd_T62 l0_0 ((rd_T43 l1 x9_1).f1)).f1))) (ds := []) q33_0 (by kernel_rfl) rfl rfl ⟨(blk_cell BK307.out 0).trans rfl, (blk_cell BK307.out 1).trans rfl, (blk_cell BK305.out 0).trans rfl, (blk_cell BK305.out 1).trans rfl, (blk_cell BK305.out 2).trans rfl, (bcl_ HB.out hw310_0 :), (bcl_ HB.out hw310_1 :), (bcl_ HB.out hw311_0 :), (bcl_ HB.out hw311_1 :)⟩ (fun hHeld => ?_); refine with_tabW impl_flat_areArcs.tab4 impl_flat_areArcs.bits4 (fun HT_ HW_ => ?_)
   generalize w25.drew = w26 at BK305 BK307 HB hx310_0 hx310_1 hx311_0 hx311_1 hHeld ⊢
   refine pup_ (i := 0) (N := some 13) HT_ rfl rfl (by kernel_rfl) (fun _ _ _ h => h) (Or.inl ⟨by rfl, by intro w'; go_simp; with_reducible rfl⟩) (by simp only [aq_]; rfl) ?_
   refine pup_ (i := 2) (N := some 15) HT_ rfl rfl (by kernel_rfl) (fun _ _ _ h => h) (Or.inl ⟨by rfl, by intro w'; go_simp; with_reducible rfl⟩) (by simp only [aq_]; rfl) ?_
   refine take_ (i := 1) (N := some 14) (v := ?_) (a' := ?_) q33_3 rfl rfl (take_ofW HT_.out HW_.out (by kernel_rfl)) (fun _ _ _ h => h) (Or.inl ⟨by rfl, ?_⟩) hHeld ?_ ?_
   rotate_left
   ·rintro w' ⟨s0, s1, s2, s3, s4, s5, s6, s7, s8⟩
    go_simp
    with_reducible rfl
   rotate_left
   ·simp only [aq_]
    rfl
   refine take_ (i := 3) (N := some 16) (v := ?_) (a' := ?_) q33_4 rfl rfl (take_ofW HT_.out HW_.out (by kernel_rfl)) (fun _ _ _ h => h) (Or.inl ⟨by rfl, ?_⟩) hHeld ?_ ?_
   rotate_left
   ·rintro w' ⟨s0, s1, s2, s3, s4, s5, s6, s7, s8⟩
    go_simp
    with_reducible rfl
   rotate_left
   ·simp only [aq_]
    rfl
   refine pup_ (i := 4) (N := some 17) HT_ rfl rfl (by kernel_rfl) (fun _ _ _ h => h) (Or.inl ⟨by rfl, by intro w'; go_simp; with_reducible rfl⟩) (by simp only [aq_]; rfl) ?_
   refine one_ (i := 5) (N := some 18) q33_6 rfl rfl (one_of HT_.out (by kernel_rfl)) (by decide) (fun K hK => ?_)
   refine goes_ Try.func30 (by kernel_rfl) rfl #[.int .i64 ((rd_T43 l1 x9_1).f0), .int .i64 (l0_0.length : Int)] (by rfl) rfl rfl (by (try simp only [mA_]); first | done | rfl | (simp only [List.length_drop, List.length_take]; rfl)) ?_
   with_reducible refine (impl_isNumber.calls ((rd_T43 l1 x9_1).f0) (l0_0.length : Int) true _ A7.out).mono ?_
   rintro e w' ⟨rfl, ⟨nd, rfl⟩⟩
   refine ⟨_, rfl, ?_⟩
   refine hK.out _ _ ⟨(blk_cell BK307.out 0).trans rfl, (blk_cell BK307.out 1).trans rfl, (blk_cell BK305.out 0).trans rfl, (blk_cell BK305.out 1).trans rfl, (blk_cell BK305.out 2).trans rfl, (bcl_ HB.out hw310_0 :), (bcl_ HB.out hw310_1 :), (bcl_ HB.out hw311_0 :), (bcl_ HB.out hw311_1 :)⟩ (fun hHeld => ?_)
   clear hK K
   refine norm_ (a' := ?_) ?_ ?_
   rotate_left
   ·show Act.put _ (some 18) _ = _
    simp only [aq_]
    rfl
   refine pup_ (i := 6) (N := some 19) HT_ rfl rfl (by kernel_rfl) (fun _ _ _ h => h) (Or.inl ⟨by rfl, by intro w'; go_simp; with_reducible rfl⟩) (by simp only [aq_]; rfl) ?_
   refine pup_ (i := 7) (N := some 20) HT_ rfl rfl (by kernel_rfl) (fun _ _ _ h => h) (Or.inl ⟨by rfl, by intro w'; go_simp; with_reducible rfl⟩) (by simp only [aq_]; rfl) ?_
   refine pup_ (i := 8) (N := some 21) HT_ rfl rfl (by kernel_rfl) (fun _ _ _ h => h) (Or.inl ⟨by rfl, by intro w'; go_simp; with_reducible rfl⟩) (by simp only [aq_]; rfl) ?_
   refine pup_ (i := 10) (N := some 23) HT_ rfl rfl (by kernel_rfl) (fun _ _ _ h => h) (Or.inl ⟨by rfl, by intro w'; go_simp; with_reducible rfl⟩) (by simp only [aq_]; rfl) ?_
   refine take_ (i := 9) (N := some 22) (v := ?_) (a' := ?_) q33_11 rfl rfl (take_ofW HT_.out HW_.out (by kernel_rfl)) (fun _ _ _ h => h) (Or.inl ⟨by rfl, ?_⟩) hHeld ?_ ?_
   rotate_left
   ·rintro w' ⟨s0, s1, s2, s3, s4, s5, s6, s7, s8⟩
    go_simp
    with_reducible rfl
   rotate_left
   ·simp only [aq_]
    rfl
   refine take_ (i := 11) (N := some 24) (v := ?_) (a' := ?_) q33_12 rfl rfl (take_ofW HT_.out HW_.out (by kernel_rfl)) (fun _ _ _ h => h) (Or.inl ⟨by rfl, ?_⟩) hHeld ?_ ?_
   rotate_left
   ·rintro w' ⟨s0, s1, s2, s3, s4, s5, s6, s7, s8⟩
    go_simp
    with_reducible rfl
   rotate_left
   ·simp only [aq_]
    rfl
   refine pup_ (i := 12) (N := some 25) HT_ rfl rfl (by kernel_rfl) (fun _ _ _ h => h) (Or.inl ⟨by rfl, by intro w'; go_simp; with_reducible rfl⟩) (by simp only [aq_]; rfl) ?_
   refine one_ (i := 13) (N := some 26) q33_14 rfl rfl (one_of HT_.out (by kernel_rfl)) (by decide) (fun K hK => ?_)
   refine goes_ Try.func30 (by kernel_rfl) rfl #[.int .i64 ((rd_T43 l1 x9_1).f1), .int .i64 (l0_0.length : Int)] (by rfl) rfl rfl (by (try simp only [mA_]); first | done | rfl | (simp only [List.length_drop, List.length_take]; rfl)) ?_
   with_reducible refine (impl_isNumber.calls ((rd_T43 l1 x9_1).f1) (l0_0.length : Int) true _ A9.out).mono ?_
   rintro e w' ⟨rfl, ⟨nd, rfl⟩⟩
   refine ⟨_, rfl, ?_⟩
   refine hK.out _ _ ⟨(blk_cell BK307.out 0).trans rfl, (blk_cell BK307.out 1).trans rfl, (blk_cell BK305.out 0).trans rfl, (blk_cell BK305.out 1).trans rfl, (blk_cell BK305.out 2).trans rfl, (bcl_ HB.out hw310_0 :), (bcl_ HB.out hw310_1 :), (bcl_ HB.out hw311_0 :), (bcl_ HB.out hw311_1 :)⟩ (fun hHeld => ?_)
   clear hK K
   refine norm_ (a' := ?_) ?_ ?_
   rotate_left
   ·show Act.put _ (some 26) _ = _
    simp only [aq_]
    rfl
   refine pup_ (i := 14) (N := some 27) HT_ rfl rfl (by kernel_rfl) (fun _ _ _ h => h) (Or.inl ⟨by rfl, by intro w'; go_simp; with_reducible rfl⟩) (by simp only [aq_]; rfl) ?_
   refine pup_ (i := 15) (N := some 28) HT_ rfl rfl (by kernel_rfl) (fun _ _ _ h => h) (Or.inl ⟨by rfl, by intro w'; go_simp; with_reducible rfl⟩) (by simp only [aq_]; rfl) ?_
   refine pup_ (i := 16) (N := some 29) HT_ rfl rfl (by kernel_rfl) (fun _ _ _ h => h) (Or.inl ⟨by rfl, by intro w'; go_simp; with_reducible rfl⟩) (by simp only [aq_]; rfl) ?_
   refine pup_ (i := 17) (N := some 30) HT_ rfl rfl (by kernel_rfl) (fun _ _ _ h => h) (Or.inl ⟨by rfl, by intro w'; go_simp; with_reducible rfl⟩) (by simp only [aq_]; rfl) ?_
   refine pup_ (i := 19) (N := some 32) HT_ rfl rfl (by kernel_rfl) (fun _ _ _ h => h) (Or.inl ⟨by rfl, by intro w'; go_simp; with_reducible rfl⟩) (by simp only [aq_]; rfl) ?_
   refine take_ (i := 18) (N := some 31) (v := ?_) (a' := ?_) q33_20 rfl rfl (take_ofW HT_.out HW_.out (by kernel_rfl)) (fun _ _ _ h => h) (Or.inl ⟨by rfl, ?_⟩) hHeld ?_ ?_
   rotate_left
   ·rintro w' ⟨s0, s1, s2, s3, s4, s5, s6, s7, s8⟩
    go_simp
    with_reducible rfl
   rotate_left
   ·simp only [aq_]
    rfl
   refine take_ (i := 20) (N := some 33) (v := ?_) (a' := ?_) q33_21 rfl rfl (take_ofW HT_.out HW_.out (by kernel_rfl)) (fun _ _ _ h => h) (Or.inl ⟨by rfl, ?_⟩) hHeld ?_ ?_
   rotate_left
   ·rintro w' ⟨s0, s1, s2, s3, s4, s5, s6, s7, s8⟩
    go_simp
    with_reducible rfl
   rotate_left
   ·simp only [aq_]
    rfl
   refine pup_ (i := 21) (N := some 34) HT_ rfl rfl (by kernel_rfl) (fun _ _ _ h => h) (Or.inl ⟨by rfl, by intro w'; go_simp; with_reducible rfl⟩) (by simp only [aq_]; rfl) ?_
   refine pup_ (i := 22) (N := some 35) HT_ rfl rfl (by kernel_rfl) (fun _ _ _ h => h) (Or.inl ⟨by rfl, by intro w'; go_simp; with_reducible rfl⟩) (by simp only [aq_]; rfl) ?_
   refine pup_ (i := 23) (N := some 36) HT_ rfl rfl (by kernel_rfl) (fun _ _ _ h => h) (Or.inl ⟨by rfl, by intro w'; go_simp; with_reducible rfl⟩) (by simp only [aq_]; rfl) ?_
   refine pup_ (i := 24) (N := some 37) HT_ rfl rfl (by kernel_rfl) (fun _ _ _ h => h) (Or.inl ⟨by rfl, by intro w'; go_simp; with_reducible rfl⟩) (by simp only [aq_]; rfl) ?_
   refine pup_ (i := 26) (N := some 39) HT_ rfl rfl (by kernel_rfl) (fun _ _ _ h => h) (Or.inl ⟨by rfl, by intro w'; go_simp; with_reducible rfl⟩) (by simp only [aq_]; rfl) ?_
   refine pup_ (i := 31) (N := some 44) HT_ rfl rfl (by kernel_rfl) (fun _ _ _ h => h) (Or.inl ⟨by rfl, by intro w'; go_simp; with_reducible rfl⟩) (by simp only [aq_]; rfl) ?_
   refine pup_ (i := 33) (N := some 46) HT_ rfl rfl (by kernel_rfl) (fun _ _ _ h => h) (Or.inl ⟨by rfl, by intro w'; go_simp; with_reducible rfl⟩) (by simp only [aq_]; rfl) ?_
   refine take_ (i := 25) (N := some 38) (v := ?_) (a' := ?_) q33_44 rfl rfl (take_ofW HT_.out HW_.out (by kernel_rfl)) (fun _ _ _ h => h) (Or.inl ⟨by rfl, ?_⟩) hHeld ?_ ?_
   rotate_left
   ·rintro w' ⟨s0, s1, s2, s3, s4, s5, s6, s7, s8⟩
    go_simp
    with_reducible rfl
   rotate_left
   ·simp only [aq_]
    rfl
   refine take_ (i := 27) (N := some 40) (v := ?_) (a' := ?_) q33_45 rfl rfl (take_ofW HT_.out HW_.out (by kernel_rfl)) (fun _ _ _ h => h) (Or.inl ⟨by rfl, ?_⟩) hHeld ?_ ?_
   rotate_left
   ·rintro w' ⟨s0, s1, s2, s3, s4, s5, s6, s7, s8⟩
    go_simp
    with_reducible rfl
   rotate_left
   ·simp only [aq_]
    rfl
   refine pup_ (i := 28) (N := some 41) HT_ rfl rfl (by kernel_rfl) (fun _ _ _ h => h) (Or.inl ⟨by rfl, by intro w'; go_simp; with_reducible rfl⟩) (by simp only [aq_]; rfl) ?_
   refine pup_ (i := 29) (N := some 42) HT_ rfl rfl (by kernel_rfl) (fun _ _ _ h => h) (Or.inl ⟨by rfl, by intro w'; go_simp; with_reducible rfl⟩) (by simp only [aq_]; rfl) ?_
   refine take_ (i := 30) (N := some 43) (v := ?_) (a' := ?_) q33_48 rfl rfl (take_ofW HT_.out HW_.out (by kernel_rfl)) (fun _ _ _ h => h) (Or.inl ⟨by rfl, ?_⟩) hHeld ?_ ?_
   rotate_left
   ·rintro w' ⟨s0, s1, s2, s3, s4, s5, s6, s7, s8⟩
    go_simp
    with_reducible rfl
   rotate_left
   ·simp only [aq_]
    rfl
   refine take_ (i := 32) (N := some 45) (v := ?_) (a' := ?_) q33_34 rfl rfl (take_ofW HT_.out HW_.out (by kernel_rfl)) (fun _ _ _ h => h) (Or.inl ⟨by rfl, ?_⟩) hHeld ?_ ?_
   rotate_left
   ·rintro w' ⟨s0, s1, s2, s3, s4, s5, s6, s7, s8⟩
    go_simp
    with_reducible rfl
   rotate_left
   ·simp only [aq_]
    rfl
   refine take_ (i := 34) (N := some 47) (v := ?_) (a' := ?_) q33_35 rfl rfl (take_ofW HT_.out HW_.out (by kernel_rfl)) (fun _ _ _ h => h) (Or.inl ⟨by rfl, ?_⟩) hHeld ?_ ?_
   rotate_left
   ·rintro w' ⟨s0, s1, s2, s3, s4, s5, s6, s7, s8⟩
    go_simp
    with_reducible rfl
   rotate_left
   ·simp only [aq_]
    rfl
   refine pup_ (i := 35) (N := some 48) HT_ rfl rfl (by kernel_rfl) (fun _ _ _ h => h) (Or.inl ⟨by rfl, by intro w'; go_simp; with_reducible rfl⟩) (by simp only [aq_]; rfl) ?_
   refine pup_ (i := 36) (N := some 49) HT_ rfl rfl (by kernel_rfl) (fun _ _ _ h => h) (Or.inl ⟨by rfl, by intro w'; go_simp; with_reducible rfl⟩) (by simp only [aq_]; rfl) ?_
   refine take_ (i := 37) (N := some 50) (v := ?_) (a' := ?_) q33_38 rfl rfl (take_ofW HT_.out HW_.out (by kernel_rfl)) (fun _ _ _ h => h) (Or.inl ⟨by rfl, ?_⟩) hHeld ?_ ?_
   rotate_left
   ·rintro w' ⟨s0, s1, s2, s3, s4, s5, s6, s7, s8⟩
    go_simp
    with_reducible rfl
   rotate_left
   ·simp only [aq_]
    rfl
   refine pup_ (i := 38) (N := some 51) HT_ rfl rfl (by kernel_rfl) (fun _ _ _ h => h) (Or.inl ⟨by rfl, by intro w'; go_simp; with_reducible rfl⟩) (by simp only [aq_]; rfl) ?_
   refine pup_ (i := 39) (N := some 52) HT_ rfl rfl (by kernel_rfl) (fun _ _ _ h => h) (Or.inl ⟨by rfl, by intro w'; go_simp; with_reducible rfl⟩) (by simp only [aq_]; rfl) ?_
   refine done_ (done_of HT_.out (by kernel_rfl)) ?_
   try go_wp2
   go_roundg k1
   case measure => have := HK1.out; omega
   case rel => exact ⟨(wrap64 (x9_1 + 1)), (by first | rfl | (simp; done) | (simp [*]; done)), H', ⟨by have := HK1.out; omega⟩, ⟨bs BK305.out⟩, ⟨by repeat (first | (with_reducible first | exact bw HB.out | refine bset ?_ | apply bA | apply bN | apply bD) | exact HB.out)⟩⟩

/-! ### impl_withArc: function 34 -/
def impl_withArc.f (l0 : List (S43)) (a1 : Int) (a2 : Int) : Option ((List (S43))) := (some (([] : List (S43)) : List (S43))).bind fun y312 => (if y312.length + l0.length < 8796093022208 then ((some (y312 ++ l0 : List (S43))).bind fun y315 => (if y315.length < 8796093022208 then (some (y315 ++ [(⟨a1, a2⟩ : S43)])) else (none))) else (none))
set_option maxHeartbeats 8000000 in
set_option maxRecDepth 100000 in
theorem impl_withArc.calls (A0 : Option Addr) (c0 : Nat) (l0 : List (S43)) (a1 : Int) (a2 : Int) (r : List (S43)) (w : World) (hr0 : Kd.C k43 w A0 l0.length l0) (hc0 : l0.length ≤ c0) (h : impl_withArc.f l0 a1 a2 = some r) :
  Calls Try.prog 34 #[.slice A0 l0.length c0, .int .i64 a1, .int .i64 a2] w fun e w' => ∃ v0_ : Value, e = .returned (v0_) ∧ Kd.R k43 43 w' w.heap.size (fun _ => True) v0_ r ∧ Below w.heap.size w w' := by
 have hu43 := Try.underlying43
 have HR0 := Aside0.mk hr0
 have HC0 := Aside0.mk hc0
 clear hr0 hc0
 have HB := Aside0.mk (Below.refl w.heap.size w)
 have H : ((some (([] : List (S43)) : List (S43))).bind fun y312 => (if y312.length + l0.length < 8796093022208 then ((some (y312 ++ l0 : List (S43))).bind fun y315 => (if y315.length < 8796093022208 then (some (y315 ++ [(⟨a1, a2⟩ : S43)])) else (none))) else (none))) = some r := h
 clear h
 obtain ⟨y312, hy312⟩ : ∃ y_ : List (S43), y_ = (([] : List (S43))) := ⟨_, rfl⟩
 replace H : (if y312.length + l0.length < 8796093022208 then ((some (y312 ++ l0 : List (S43))).bind fun y315 => (if y315.length < 8796093022208 then (some (y315 ++ [(⟨a1, a2⟩ : S43)])) else (none))) else (none)) = some r := by first | (rw [hy312]; with_reducible exact H) | (have H2_ := (Option.bind_some _ _).symm.trans H; rw [hy312]; with_reducible exact H2_) | (have H2_ := (Option.bind_some _ _).symm.trans H; with_reducible exact H2_) | with_reducible exact H | (rw [hy312]; exact H) | exact H
 have Ny312 := Aside0.mk hy312
 clear hy312
 by_cases c4 : y312.length + l0.length < 8796093022208
 rotate_left
 ·rw [if_neg c4] at H
  exact absurd H (by simp)
 rw [if_pos c4] at H
 have LMc4 := Aside0.mk c4
 clear c4
 obtain ⟨y315, hy315⟩ : ∃ y_ : List (S43), y_ = (y312 ++ l0) := ⟨_, rfl⟩
 replace H : (if y315.length < 8796093022208 then (some (y315 ++ [(⟨a1, a2⟩ : S43)])) else (none)) = some r := by first | (rw [hy315]; with_reducible exact H) | (have H2_ := (Option.bind_some _ _).symm.trans H; rw [hy315]; with_reducible exact H2_) | (have H2_ := (Option.bind_some _ _).symm.trans H; with_reducible exact H2_) | with_reducible exact H | (rw [hy315]; exact H) | exact H
 have Ny315 := Aside0.mk hy315
 clear hy315
 by_cases c5 : y315.length < 8796093022208
 rotate_left
 ·rw [if_neg c5] at H
  exact absurd H (by simp)
 rw [if_pos c5] at H
 have LMc5 := Aside0.mk c5
 clear c5
 obtain ⟨y318, hy318⟩ : ∃ y_ : List (S43), y_ = (y315 ++ [(⟨a1, a2⟩ : S43)]) := ⟨_, rfl⟩
 replace H : (some y318) = some r := by first | (rw [hy318]; with_reducible exact H) | (have H2_ := (Option.bind_some _ _).symm.trans H; rw [hy318]; with_reducible exact H2_) | (have H2_ := (Option.bind_some _ _).symm.trans H; with_reducible exact H2_) | with_reducible exact H | (rw [hy318]; exact H) | exact H
 have Ny318 := Aside0.mk hy318
 clear hy318
 obtain rfl := Option.some.inj H
 go_enter Try.func34, Try.ntmps34
 go_wp2_with (first | ((with_reducible refine gate_dst (N := 7) rfl ?_); refine Kd.R_lit k43 _ 43 ?hg (N := 7) ?hd (xs := ([] : List (S43))) (inner := []) (ok := fun _ => True) (okp := fun _ => True) ?hr ?hp (fun _ hk => hk) trivial (Below.refl _ _) (Nat.le_refl _) (by simp) ?_; (case hd => rfl); (case hg => rfl); (case hr => first | (go_simp; done) | (go_simp; rfl)); (case hp => exact (Reps.none _ _)); intro v313 w6 ho7 hb hg_ hnew_; clear hg_ hnew_; (first | rw [← Ny312.out] at ho7 | (simp only [Int.reduceToNat] at ho7; rw [← Ny312.out] at ho7)); have n0_ := Aside0.mk (Kd.R_lower ho7 (below_size (bw HB.out))); have n1_ := Aside0.mk (below_step (bw HB.out) hb); have HO314 := n0_; replace HB := n1_; clear n0_ n1_; clear hb ho7) | ((with_reducible refine gate_builtin (b := .append) (xs := #[.tmp 7, .tmp 8]) rfl ?_); at_builtin; refine Kd.R_append_rows k43 (w0 := w) w.heap.size rfl (.tmp 7) (.tmp 8) 25 43 (.agg #[(.int .i64 0), (.int .i64 0)]) 16 rfl Try.underlying25 info43 rfl (by decide) (by omega) v313 y312 l0 _ _ _ (fun _ => True) (fun _ => False) rfl rfl ?aO ?aR (fun _ _ h => h) (fun _ h => h.elim) ?aF ?aB ?aS ?aL ?_; (case aR => first | exact bC HR0.out HB.out | exact Kd.C_below HR0.out HB.out); (case aB => exact (bw HB.out)); (case aF => exact (fun _ _ => trivial)); (case aO => exact (bR HO314.out)); (case aS => exact (below_size (bw HB.out))); (case aL => have := LMc4.out; omega); intro v316 w8 ho hb hg hat; rw [← Ny315.out] at ho; have n0_ := Aside0.mk (hb); have n1_ := Aside0.mk (ho); clear HO314; replace HB := n0_; have HO317 := n1_; clear n0_ n1_; clear ho hb hg hat) | ((with_reducible refine gate_builtin (b := .append) (xs := #[.tmp 9, .tmp 13]) rfl ?_); at_builtin; refine Kd.R_append k43 (w0 := w) w.heap.size rfl (.tmp 9) (.tmp 13) 25 43 (.agg #[(.int .i64 0), (.int .i64 0)]) 16 rfl Try.underlying25 info43 rfl (by decide) (by omega) v316 y315 (⟨a1, a2⟩ : S43) [.int .i64 a1, .int .i64 a2] (fun _ => True) (fun _ => False) rfl rfl ?aP (fun _ hk => hk.elim) ?aF ?aO ?aB ?aS ?aL ?_; (case aP => exact k43_mkM _ _ _ (⟨a1, a2⟩ : S43)); (case aB => exact (bw HB.out)); (case aF => exact (fun _ _ => trivial)); (case aO => exact (bR HO317.out)); (case aS => exact (below_size (bw HB.out))); (case aL => have := LMc5.out; omega); intro v319 w9 ho hb hg hat; rw [← Ny318.out] at ho; have n0_ := Aside0.mk (hb); have n1_ := Aside0.mk (ho); clear HO317; replace HB := n0_; have HO320 := n1_; clear n0_ n1_; clear ho hb hg hat))
 go_ret
 exact ⟨_, by first | rfl | (simp [errW_none, errW_some] <;> rfl) | (simp [*, errW_none, errW_some] <;> rfl), by (with_reducible repeat (first | apply Kd.R_alloc | apply Kd.R_drewN | apply Kd.R_drew)); exact HO320.out, bw HB.out⟩

/-! ### impl_flat_proved: function 19 -/
abbrev q19_0 : Array Bool := ⟨rl_ [8] false⟩
abbrev q19_1 : Array Bool := ⟨rl_ [5, 3] true⟩
abbrev q19_2 : Array Bool := ⟨rl_ [6, 2] true⟩
abbrev q19_3 : Array Bool := ⟨rl_ [7, 1] true⟩
abbrev q19_4 : Array Bool := ⟨rl_ [15] false⟩
abbrev q19_5 : Array Bool := ⟨rl_ [3, 1, 1, 2, 2, 6] true⟩
abbrev q19_6 : Array Bool := ⟨rl_ [5, 2, 2, 6] true⟩
abbrev q19_7 : Array Bool := ⟨rl_ [6, 1, 2, 6] true⟩
abbrev q19_8 : Array Bool := ⟨rl_ [9, 6] true⟩
abbrev q19_9 : Array Bool := ⟨rl_ [10, 5] true⟩
abbrev q19_10 : Array Bool := ⟨rl_ [14] false⟩
abbrev q19_11 : Array Bool := ⟨rl_ [3, 1, 1, 2, 2, 5] true⟩
abbrev q19_12 : Array Bool := ⟨rl_ [5, 2, 2, 5] true⟩
abbrev q19_13 : Array Bool := ⟨rl_ [6, 1, 2, 5] true⟩
abbrev q19_14 : Array Bool := ⟨rl_ [9, 5] true⟩
abbrev q19_15 : Array Bool := ⟨rl_ [10, 4] true⟩
def impl_flat_proved.f : Nat → List (S62) → List Int → List Int → List (S43) → Int → List (S43) → Option (List (S43) × Bool)
 | 0, _, _, _, _, _, _ => none
 | k + 1, O, R, I, arcs, v, [] => some ([], false)
 | k + 1, O, R, I, arcs, v, p :: rest =>
  if p.f0 = -1 ∧ p.f1 = -1 then (impl_flat_mayEnd.f k O R I arcs v).bind fun b => some (rest, b)
  else if p.f0 ≥ p.f1 then some ([], false)
  else (impl_flat_areArcs.f k O R I [p]).bind fun q => if q = true then
   (impl_withArc.f arcs p.f0 p.f1).bind fun a1 => (impl_flat_proved.f k O R I a1 v rest).bind fun t => if t.2 = true then (impl_withArc.f arcs p.f1 p.f0).bind fun a2 => impl_flat_proved.f k O R I a2 v t.1 else some ([], false)
   else some ([], false)
theorem impl_flat_proved.mono : ∀ a0 a1 a2 a3 a4 a5 k, LeO (impl_flat_proved.f k a0 a1 a2 a3 a4 a5) (impl_flat_proved.f (k + 1) a0 a1 a2 a3 a4 a5)
 | O, R, I, arcs, v, l, 0 => LeO.none _
 | O, R, I, arcs, v, [], k + 1 => LeO.refl _
 | O, R, I, arcs, v, p :: rest, k + 1 => by
  rw [impl_flat_proved.f, impl_flat_proved.f]
  refine LeO.ite (LeO.bind (impl_flat_mayEnd.mono _ _ _ _ _ _) (fun _ => LeO.refl _)) (LeO.ite (LeO.refl _) (LeO.bind (impl_flat_areArcs.mono _ _ _ _ _) (fun _ => LeO.ite (LeO.bind (LeO.refl _) (fun _ => LeO.bind (impl_flat_proved.mono _ _ _ _ _ _ k) (fun t => LeO.ite (LeO.bind (LeO.refl _) (fun _ => impl_flat_proved.mono _ _ _ _ _ _ k)) (LeO.refl _)))) (LeO.refl _))))
theorem impl_flat_proved.eqA (w : World) (a b c d : Int) : (Op.equalIn 10000 43 (.agg #[.int .i64 a, .int .i64 b]) (.agg #[.int .i64 c, .int .i64 d])).run Try.prog w = .ok (a == c && b == d) w := by
 obtain ⟨i0, hi, hz0, hz1, hz2⟩ := info_parts info3
 have hc : Try.prog.cellsOf 3 = 1 := by unfold Program.cellsOf; rw [hi]; exact hz1
 rw [run_equalIn_array w 9999 _ _ Try.underlying43 hi, hc]
 have hs : Try.prog.underlying 3 = some (.int .i64) := Try.underlying3
 simp only [show List.range 2 = [0, 1] from rfl, Op.eqItems]
 have h0 : ∀ (e : Nat) (x y : Int) (W : World), (Op.equalIn (e + 1) 3 (.int .i64 x) (.int .i64 y)).run Try.prog W = .ok (x == y) W := fun e x y W => by
  simp only [Op.equalIn, Sem.run_bind, run_underlying hs, Result.andThen_ok, if_true, Sem.run_pure]
 have h1 := h0 9998
 have p0 : ∀ (x y : Int) (W : World), (part 3 #[.int .i64 x, .int .i64 y] 0).run Try.prog W = .ok (.int .i64 x) W := fun x y W => by
  go_simp
 have p1 : ∀ (x y : Int) (W : World), (part 3 #[.int .i64 x, .int .i64 y] 1).run Try.prog W = .ok (.int .i64 y) W := fun x y W => by
  go_simp
 simp only [Nat.zero_mul, Nat.one_mul, Sem.run_bind, p0, p1, h1, Result.andThen_ok]
 cases h : (a == c) <;> cases h2 : (b == d) <;> simp [Sem.run_bind, p1, h1, h2]
set_option maxHeartbeats 8000000 in
set_option maxRecDepth 100000 in
theorem impl_flat_proved.calls : ∀ (k : Nat) (A0_0 : Option Addr) (c0_0 : Nat) (l0_0 : List (S62)) (A0_1 : Option Addr) (c0_1 : Nat) (l0_1 : List Int) (A0_2 : Option Addr) (c0_2 : Nat) (l0_2 : List Int) (A1 : Option Addr) (c1 : Nat) (l1 : List (S43)) (a2 : Int) (A3 : Option Addr) (c3 : Nat) (l3 : List (S43)) (r1 : List (S43)) (r2 : Bool) (w0 w : World), Kd.C k62 w A0_0 l0_0.length l0_0 → l0_0.length ≤ c0_0 → Kd.C (Kd.int .i64) w A0_1 l0_1.length l0_1 → l0_1.length ≤ c0_1 → Kd.C (Kd.int .i64) w A0_2 l0_2.length l0_2 → l0_2.length ≤ c0_2 → Kd.C k43 w A1 l1.length l1 → l1.length ≤ c1 → Kd.C k43 w0 A3 l3.length l3 → l3.length ≤ c3 → Below w0.heap.size w0 w → impl_flat_proved.f k l0_0 l0_1 l0_2 l1 a2 l3 = some (r1, r2) →
  Calls Try.prog 19 #[.agg #[.slice A0_0 l0_0.length c0_0, .slice A0_1 l0_1.length c0_1, .slice A0_2 l0_2.length c0_2], .slice A1 l1.length c1, .int .i64 a2, .slice A3 l3.length c3] w fun e w' => ∃ (A : Option Addr) (c : Nat), e = .returned (.tuple #[.slice A r1.length c, .bool r2]) ∧ Kd.C k43 w0 A r1.length r1 ∧ r1.length ≤ c ∧ Below w.heap.size w w'
 | 0, _, _, _, _, _, _, _, _, _, _, _, _, _, _, _, _, _, _, _, _, _, _, _, _, _, _, _, _, _, _, _, h => by cases h
 | k + 1, A0_0, c0_0, l0_0, A0_1, c0_1, l0_1, A0_2, c0_2, l0_2, A1, c1, l1, a2, A3, c3, [], r1, r2, w0, w, hr00, hc00, hr01, hc01, hr02, hc02, hr1, hc1, hr3, hc3, hB0, h => by
  simp only [impl_flat_proved.f, Option.some.injEq, Prod.mk.injEq] at h
  obtain ⟨rfl, rfl⟩ := h
  have HB := Aside0.mk (Below.refl w.heap.size w)
  clear hr00 hc00 hr01 hc01 hr02 hc02 hr1 hc1 hr3 hc3 hB0
  go_enter Try.func19, Try.ntmps19
  go_wp2_with ((with_reducible refine gate_dst (N := 4) rfl ?_); refine box_event ?hg (N := 4) ?hd (cs := #[.slice A0_0 l0_0.length c0_0, .slice A0_1 l0_1.length c0_1, .slice A0_2 l0_2.length c0_2]) (t := 48) ?hr ?_; (case hd => rfl); (case hg => rfl); (case hr => first | (go_simp; done) | (go_simp; rfl)); intro gb hg w5 hbox hb; have n0_ := Aside0.mk (below_step (bw HB.out) hb); have n1_ := Aside0.mk hbox; replace HB := n0_; have BK := n1_; clear n0_ n1_ hb hbox hg; obtain ⟨hcz0, hcz1, hcz2, hfz0, hfz1, hfz2⟩ := bz3 BK.out)
  go_ret2
  exact ⟨none, 0, rfl, Kd.C_nil _ _, Nat.le_refl _, HB.out⟩
 | k + 1, A0_0, c0_0, l0_0, A0_1, c0_1, l0_1, A0_2, c0_2, l0_2, A1, c1, l1, a2, A3, c3, p :: rest, r1, r2, w0, w, hr00, hc00, hr01, hc01, hr02, hc02, hr1, hc1, hr3, hc3, hB0, h => by
  have IH := impl_flat_proved.calls k
  have hu1 := Try.underlying48
  have hu2 := Try.underlying43
  have HR00 := Aside0.mk hr00
  have HC00 := Aside0.mk hc00
  have HR01 := Aside0.mk hr01
  have HC01 := Aside0.mk hc01
  have HR02 := Aside0.mk hr02
  have HC02 := Aside0.mk hc02
  have HR1 := Aside0.mk hr1
  have HC1 := Aside0.mk hc1
  have HR3 := Aside0.mk hr3
  have HC3 := Aside0.mk hc3
  have HIH := Aside0.mk IH
  have HB0 := Aside0.mk hB0
  have HB := Aside0.mk (Below.refl w.heap.size w)
  obtain ⟨ad3, ea, hp0, hp1⟩ := at_T43 hr3 0 (by omega) (by simp only [List.length_cons]; omega)
  cases ea
  have e1 : rd_T43 (p :: rest) 0 = p := rfl
  rw [e1] at hp0 hp1
  have e2 : ad3.add (Int.toNat 0 * 2) = ad3 := Addr.add_zero' ad3
  rw [e2] at hp0 hp1
  have HP0 := Aside0.mk (bcl_ hB0 hp0)
  have HP1 := Aside0.mk (bcl_ hB0 hp1)
  have hz1 : decide ((((p :: rest).length : Nat) : Int) = 0) = false := decide_eq_false (by simp only [List.length_cons]; omega)
  have hz2 : ((((p :: rest).length : Nat) : Int) == 0) = false := by simp only [List.length_cons, beq_eq_false_iff_ne, ne_eq]; omega
  have hl : 0 < (p :: rest).length := by simp only [List.length_cons]; omega
  have hl1 := eq_true (show (0 : Int) < (((p :: rest).length : Nat) : Int) by omega)
  clear hr00 hc00 hr01 hc01 hr02 hc02 hr1 hc1 hr3 hc3 hB0 IH e1 e2 hp0 hp1
  generalize hLN : (p :: rest).length = ln at hz1 hz2 hl hl1
  have HLN := Aside0.mk hLN
  clear hLN
  have m1 := eq_true (show (1 : Int) ≤ ((ln : Nat) : Int) by omega)
  have m2 := eq_true (show 1 ≤ ln by omega)
  have hc3 : ln ≤ c3 := by have := HC3.out; have := HLN.out; omega
  have m3 := eq_true (show 1 ≤ c3 by omega)
  have m4 := eq_true hc3
  have m5 := eq_true (show (1 : Int) ≤ (c3 : Int) by omega)
  have HTL : Aside0 (Kd.C k43 w0 (if c3 = 1 then some ad3 else some ⟨ad3.block, ad3.off + 2, none⟩) rest.length rest) := ⟨by
   have h1 := Kd.C_drop (m := 1) (c := c3) HR3.out (by simp only [List.length_cons]; omega) HC3.out
   exact h1⟩
  have HLR : Aside0 (rest.length = ln - 1 ∧ ln ≤ c3) := ⟨by have := HLN.out; simp only [List.length_cons] at this; omega, hc3⟩
  clear hc3
  go_enter Try.func19, Try.ntmps19
  go_upto_region 3 with ((with_reducible refine gate_dst (N := 4) rfl ?_); refine box_event ?hg (N := 4) ?hd (cs := #[.slice A0_0 l0_0.length c0_0, .slice A0_1 l0_1.length c0_1, .slice A0_2 l0_2.length c0_2]) (t := 48) ?hr ?_; (case hd => rfl); (case hg => rfl); (case hr => first | (go_simp; done) | (go_simp; rfl)); intro gb hg w5 hbox hb; have n0_ := Aside0.mk (below_step (bw HB.out) hb); have n1_ := Aside0.mk hbox; replace HB := n0_; have BK := n1_; clear n0_ n1_ hb hbox hg; obtain ⟨hcz0, hcz1, hcz2, hfz0, hfz1, hfz2⟩ := bz3 BK.out)
  have n0 := Aside0.mk (show w5.drew.heap[gb]? = _ from bs BK.out)
  have n1 := Aside0.mk (below_drew1 HB.out)
  replace BK := n0
  replace HB := n1
  clear n0 n1 hcz0 hcz1 hcz2 hfz0 hfz1 hfz2
  refine start_ (n := 8) (S := fun w' => w'.cell? ad3 = some (.int .i64 p.f0) ∧ w'.cell? ⟨ad3.block, ad3.off + 1, none⟩ = some (.int .i64 p.f1)) (ds := [6]) q19_0 (by kernel_rfl) rfl rfl ⟨bcl_ HB.out HP0.out, bcl_ HB.out HP1.out⟩ (fun hHeld => ?_)
  generalize w5.drew = w6 at BK HB hHeld ⊢
  refine puq_ (i := 0) (N := some 16) rfl rfl (by kernel_rfl) (fun _ _ _ h => h) (Or.inl ⟨by rfl, by intro w'; go_simp; with_reducible rfl⟩) (by simp only [aq_]; rfl) ?_
  refine puq_ (i := 1) (N := some 17) rfl rfl (by kernel_rfl) (fun _ _ _ h => h) (Or.inl ⟨by rfl, by intro w'; go_simp; with_reducible rfl⟩) (by simp only [aq_]; rfl) ?_
  refine puq_ (i := 3) (N := some 19) rfl rfl (by kernel_rfl) (fun _ _ _ h => h) (Or.inl ⟨by rfl, by intro w'; go_simp; with_reducible rfl⟩) (by simp only [aq_]; rfl) ?_
  refine puq_ (i := 4) (N := some 20) rfl rfl (by kernel_rfl) (fun _ _ _ h => h) (Or.inl ⟨by rfl, by intro w'; go_simp; with_reducible rfl⟩) (by simp only [aq_]; rfl) ?_
  refine take_ (i := 2) (N := some 18) (v := ?_) (a' := ?_) q19_1 rfl rfl (by kernel_rfl) (fun _ _ _ h => h) (Or.inl ⟨by rfl, ?_⟩) hHeld ?_ ?_
  rotate_left
  ·rintro w' ⟨s0, s1⟩
   go_simp
   with_reducible rfl
  rotate_left
  ·simp only [aq_]
   rfl
  refine one_ (i := 5) (N := some 10) q19_2 rfl rfl (by kernel_rfl) (by decide) (fun K hK => ?_)
  refine value_ (w1 := w6.alloc (.cells #[.int .i64 0, .int .i64 0] 43)) (v := .pointer (some ⟨w6.heap.size, 0, none⟩)) (by rfl) rfl ?_ ?_
  ·first | (go_simp; done) | (go_simp; rfl)
  have BC : Aside0 ((w6.alloc (.cells #[.int .i64 0, .int .i64 0] 43)).heap[w6.heap.size]? = some (.cells #[.int .i64 0, .int .i64 0] 43 (0, 0))) := ⟨by show (w6.heap.push _)[w6.heap.size]? = _; simp⟩
  have NE : Aside0 (gb ≠ w6.heap.size) := ⟨Nat.ne_of_lt (blk_lt BK.out)⟩
  have GE : Aside0 (w.heap.size ≤ w6.heap.size) := ⟨below_size HB.out⟩
  have n0 := Aside0.mk (blk_alloc BK.out (.cells #[.int .i64 0, .int .i64 0] 43))
  have n1 := Aside0.mk (below_alloc HB.out (.cells #[.int .i64 0, .int .i64 0] 43))
  replace BK := n0
  replace HB := n1
  clear n0 n1
  generalize w6.heap.size = gc at BC NE GE ⊢
  generalize w6.alloc (.cells #[.int .i64 0, .int .i64 0] 43) = w7 at BC BK HB ⊢
  refine hK.out _ _ ⟨bcl_ HB.out HP0.out, bcl_ HB.out HP1.out⟩ (fun hHeld => ?_)
  clear hK K
  refine norm_ (a' := ?_) ?_ ?_
  rotate_left
  ·show Act.put _ (some 10) _ = _
   simp only [aq_]
   rfl
  refine last_ (i := 6) (N := none) q19_3 rfl rfl (by kernel_rfl) (by decide) (fun K hK => ?_)
  obtain ⟨hcc0, hcc1, hfc0, hfc1⟩ := bz2 BC.out
  have hne := NE.out
  refine skip_ (w1 := ((w7.setCell ⟨gc, 0, none⟩ (.int .i64 p.f0)).setCell ⟨gc, 1, none⟩ (.int .i64 p.f1))) (by rfl) rfl ?_ ?_
  ·first | (go_simp; done) | (go_simp; rfl)
  have n0_ : Aside0 (((w7.setCell ⟨gc, 0, none⟩ (.int .i64 p.f0)).setCell ⟨gc, 1, none⟩ (.int .i64 p.f1)).heap[gb]? = some (.cells #[.slice A0_0 l0_0.length c0_0, .slice A0_1 l0_1.length c0_1, .slice A0_2 l0_2.length c0_2] 48 (0, 0))) := ⟨by refine blk_far ?_ NE.out _; refine blk_far ?_ NE.out _; exact BK.out⟩
  have n1_ : Aside0 (((w7.setCell ⟨gc, 0, none⟩ (.int .i64 p.f0)).setCell ⟨gc, 1, none⟩ (.int .i64 p.f1)).heap[gc]? = some (.cells #[.int .i64 p.f0, .int .i64 p.f1] 43 (0, 0))) := ⟨by refine blk_put (cs := #[.int .i64 p.f0, .int .i64 0]) ?_ 1 _ rfl; refine blk_put (cs := #[.int .i64 0, .int .i64 0]) ?_ 0 _ rfl; exact BC.out⟩
  have n2_ : Aside0 (Below w.heap.size w ((w7.setCell ⟨gc, 0, none⟩ (.int .i64 p.f0)).setCell ⟨gc, 1, none⟩ (.int .i64 p.f1))) := ⟨bset (bset HB.out)⟩
  clear BK BC HB hcc0 hcc1 hfc0 hfc1
  (try simp only [setCell_drewN])
  generalize ((w7.setCell ⟨gc, 0, none⟩ (.int .i64 p.f0)).setCell ⟨gc, 1, none⟩ (.int .i64 p.f1)) = w8 at n0_ n1_ n2_ ⊢
  have BK := n0_
  have BC := n1_
  have HB := n2_
  clear n0_ n1_ n2_
  refine hK.out _ _ ?_
  clear hK K
  refine puq_ (i := 7) (N := some 11) rfl rfl (by kernel_rfl) (fun _ _ _ h => h) (Or.inl ⟨by rfl, by intro w'; go_simp; with_reducible rfl⟩) (by simp only [aq_]; rfl) ?_
  refine done_ (by kernel_rfl) ?_
  generalize (if c3 = 1 then some ad3 else some (⟨ad3.block, ad3.off + 2, none⟩ : Addr)) = A4 at HTL ⊢
  obtain ⟨hcz0, hcz1, hcz2, hfz0, hfz1, hfz2⟩ := bz3 BK.out
  obtain ⟨hcc0, hcc1, hfc0, hfc1⟩ := bz2 BC.out
  have heq := fun (W : World) => impl_flat_proved.eqA W p.f0 p.f1 (-1) (-1)
  by_cases hA : p.f0 = -1 ∧ p.f1 = -1
  ·have hE : (p.f0 == -1 && p.f1 == -1) = true := by rw [hA.1, hA.2]; rfl
   have h2 := h
   rw [impl_flat_proved.f, if_pos hA] at h2
   replace h2 := Option.bind_eq_some_iff.mp h2
   obtain ⟨b, hb, h2⟩ := h2
   simp only [Option.some.injEq, Prod.mk.injEq] at h2
   obtain ⟨rfl, rfl⟩ := h2
   have AB := Aside0.mk hb
   clear h hb hA
   go_wp2_with ((with_reducible refine gate_callee (f := 32) rfl ?_); refine goesL_ (some 28) rfl rfl Try.func32 (by kernel_rfl) rfl #[.agg #[.slice A0_0 l0_0.length c0_0, .slice A0_1 l0_1.length c0_1, .slice A0_2 l0_2.length c0_2], .slice A1 l1.length c1, .int .i64 a2] rfl (by (try simp only [mA_]); first | done | rfl) ?_; (with_reducible refine (impl_flat_mayEnd.calls k A0_0 c0_0 l0_0 A0_1 c0_1 l0_1 A0_2 c0_2 l0_2 A1 c1 l1 a2 b _ ?s1 HC00.out ?s2 HC01.out ?s3 HC02.out ?s4 HC1.out AB.out).mono ?_); (case s1 => exact bC HR00.out HB.out); (case s2 => exact bC HR01.out HB.out); (case s3 => exact bC HR02.out HB.out); (case s4 => exact bC HR1.out HB.out); rintro e w39 ⟨rfl, hb⟩; refine ⟨_, rfl, ?_⟩; have n0_ := Aside0.mk (blk_below (bs BK.out) hb); have n1_ := Aside0.mk (blk_below (bs BC.out) hb); have n2_ := Aside0.mk (below_step (bw HB.out) hb); replace BK := n0_; replace BC := n1_; replace HB := n2_; clear n0_ n1_ n2_ hb hcz0 hcz1 hcz2 hfz0 hfz1 hfz2 hcc0 hcc1 hfc0 hfc1; obtain ⟨hcz0, hcz1, hcz2, hfz0, hfz1, hfz2⟩ := bz3 BK.out; obtain ⟨hcc0, hcc1, hfc0, hfc1⟩ := bz2 BC.out)
   go_ret2
   exact ⟨_, _, by rw [HLR.out.1]; rfl, HTL.out, by have := HLR.out; omega, HB.out⟩
  have hE : (p.f0 == -1 && p.f1 == -1) = false := by simpa using hA
  have h2 := h
  rw [impl_flat_proved.f, if_neg hA] at h2
  by_cases hge : p.f0 ≥ p.f1
  ·rw [if_pos hge] at h2
   simp only [Option.some.injEq, Prod.mk.injEq] at h2
   obtain ⟨rfl, rfl⟩ := h2
   have d1 : decide (p.f1 ≤ p.f0) = true := decide_eq_true hge
   clear h hge hA
   go_wp2
   go_ret2
   exact ⟨none, 0, rfl, Kd.C_nil _ _, Nat.le_refl _, HB.out⟩
  rw [if_neg hge] at h2
  replace h2 := Option.bind_eq_some_iff.mp h2
  obtain ⟨q, hq, h2⟩ := h2
  have d1 : decide (p.f1 ≤ p.f0) = false := decide_eq_false hge
  have AQ := Aside0.mk hq
  have H2 := Aside0.mk h2
  clear h hge hA hq h2
  cases q with
  | false =>
   have h2 := H2.out
   simp only [Bool.false_eq_true, if_false, Option.some.injEq, Prod.mk.injEq] at h2
   obtain ⟨rfl, rfl⟩ := h2
   clear H2
   go_wp2_with (first | ((with_reducible refine gate_dst (N := 37) rfl ?_); (try (refine gate_guard (by rfl) ?_; dsimp only)); refine Kd.R_lit k43 _ 43 ?hg (N := 37) ?hd (xs := ([p] : List (S43))) (inner := [.int .i64 p.f0, .int .i64 p.f1]) (ok := fun _ => True) (okp := fun _ => True) ?hr ?hp (fun _ hk => hk) trivial (Below.refl _ _) (Nat.le_refl _) (by simp) ?_; (case hd => rfl); (case hg => rfl); (case hr => first | (go_simp; done) | (go_simp; rfl)); (case hp => exact (Reps.c2 (k43_mkM _ _ _ p) (Reps.none _ _))); intro v37 w37 ho4 hb hg_ hnew_; clear hg_ hnew_; have HO37 := Aside0.mk (Kd.R_lower ho4 (below_size (bw HB.out))); have n0_ := Aside0.mk (blk_below (bs BK.out) hb); have n1_ := Aside0.mk (blk_below (bs BC.out) hb); have n2_ := Aside0.mk (below_step (bw HB.out) hb); replace BK := n0_; replace BC := n1_; replace HB := n2_; clear n0_ n1_ n2_ hb ho4 hcz0 hcz1 hcz2 hfz0 hfz1 hfz2 hcc0 hcc1 hfc0 hfc1; obtain ⟨hcz0, hcz1, hcz2, hfz0, hfz1, hfz2⟩ := bz3 BK.out; obtain ⟨hcc0, hcc1, hfc0, hfc1⟩ := bz2 BC.out; obtain ⟨A37, c37, e37⟩ := Kd.R_slice HO37.out; subst e37) | (go_at_call 33; refine calls_args (a' := #[.agg #[.slice A0_0 l0_0.length c0_0, .slice A0_1 l0_1.length c0_1, .slice A0_2 l0_2.length c0_2], .slice A37 [p].length c37]) rfl ?_; (with_reducible refine (impl_flat_areArcs.calls k A0_0 c0_0 l0_0 A0_1 c0_1 l0_1 A0_2 c0_2 l0_2 A37 c37 [p] _ _ ?s1 HC00.out ?s2 HC01.out ?s3 HC02.out ?s4 ?s5 AQ.out).mono ?_); (case s1 => exact bC HR00.out HB.out); (case s2 => exact bC HR01.out HB.out); (case s3 => exact bC HR02.out HB.out); (case s4 => exact (Kd.R_reads' HO37.out).2.2); (case s5 => exact (Kd.R_reads' HO37.out).2.1); rintro e w39 ⟨rfl, hb⟩; have n0_ := Aside0.mk (blk_below (bs BK.out) hb); have n1_ := Aside0.mk (blk_below (bs BC.out) hb); have n2_ := Aside0.mk (below_step (bw HB.out) hb); replace BK := n0_; replace BC := n1_; replace HB := n2_; clear n0_ n1_ n2_ hb hcz0 hcz1 hcz2 hfz0 hfz1 hfz2 hcc0 hcc1 hfc0 hfc1; obtain ⟨hcz0, hcz1, hcz2, hfz0, hfz1, hfz2⟩ := bz3 BK.out; obtain ⟨hcc0, hcc1, hfc0, hfc1⟩ := bz2 BC.out))
   go_ret2
   exact ⟨none, 0, rfl, Kd.C_nil _ _, Nat.le_refl _, HB.out⟩
  | true =>
   have h2 := H2.out
   rw [if_pos rfl] at h2
   replace h2 := Option.bind_eq_some_iff.mp h2
   obtain ⟨x1, hx1, h2⟩ := h2
   replace h2 := Option.bind_eq_some_iff.mp h2
   obtain ⟨t, ht, h2⟩ := h2
   obtain ⟨t1, t2⟩ := t
   have AX1 := Aside0.mk hx1
   have AT := Aside0.mk ht
   have H3 := Aside0.mk h2
   clear H2 h2 ht hx1
   go_upto_region 8 with (first | ((with_reducible refine gate_dst (N := 37) rfl ?_); (try (refine gate_guard (by rfl) ?_; dsimp only)); refine Kd.R_lit k43 _ 43 ?hg (N := 37) ?hd (xs := ([p] : List (S43))) (inner := [.int .i64 p.f0, .int .i64 p.f1]) (ok := fun _ => True) (okp := fun _ => True) ?hr ?hp (fun _ hk => hk) trivial (Below.refl _ _) (Nat.le_refl _) (by simp) ?_; (case hd => rfl); (case hg => rfl); (case hr => first | (go_simp; done) | (go_simp; rfl)); (case hp => exact (Reps.c2 (k43_mkM _ _ _ p) (Reps.none _ _))); intro v37 w37 ho4 hb hg_ hnew_; clear hg_ hnew_; have HO37 := Aside0.mk (Kd.R_lower ho4 (below_size (bw HB.out))); have n0_ := Aside0.mk (blk_below (bs BK.out) hb); have n1_ := Aside0.mk (blk_below (bs BC.out) hb); have n2_ := Aside0.mk (below_step (bw HB.out) hb); replace BK := n0_; replace BC := n1_; replace HB := n2_; clear n0_ n1_ n2_ hb ho4 hcz0 hcz1 hcz2 hfz0 hfz1 hfz2 hcc0 hcc1 hfc0 hfc1; obtain ⟨hcz0, hcz1, hcz2, hfz0, hfz1, hfz2⟩ := bz3 BK.out; obtain ⟨hcc0, hcc1, hfc0, hfc1⟩ := bz2 BC.out; obtain ⟨A37, c37, e37⟩ := Kd.R_slice HO37.out; subst e37) | (go_at_call 33; refine calls_args (a' := #[.agg #[.slice A0_0 l0_0.length c0_0, .slice A0_1 l0_1.length c0_1, .slice A0_2 l0_2.length c0_2], .slice A37 [p].length c37]) rfl ?_; (with_reducible refine (impl_flat_areArcs.calls k A0_0 c0_0 l0_0 A0_1 c0_1 l0_1 A0_2 c0_2 l0_2 A37 c37 [p] _ _ ?s1 HC00.out ?s2 HC01.out ?s3 HC02.out ?s4 ?s5 AQ.out).mono ?_); (case s1 => exact bC HR00.out HB.out); (case s2 => exact bC HR01.out HB.out); (case s3 => exact bC HR02.out HB.out); (case s4 => exact (Kd.R_reads' HO37.out).2.2); (case s5 => exact (Kd.R_reads' HO37.out).2.1); rintro e w39 ⟨rfl, hb⟩; have n0_ := Aside0.mk (blk_below (bs BK.out) hb); have n1_ := Aside0.mk (blk_below (bs BC.out) hb); have n2_ := Aside0.mk (below_step (bw HB.out) hb); replace BK := n0_; replace BC := n1_; replace HB := n2_; clear n0_ n1_ n2_ hb hcz0 hcz1 hcz2 hfz0 hfz1 hfz2 hcc0 hcc1 hfc0 hfc1; obtain ⟨hcz0, hcz1, hcz2, hfz0, hfz1, hfz2⟩ := bz3 BK.out; obtain ⟨hcc0, hcc1, hfc0, hfc1⟩ := bz2 BC.out))
   have n0 := Aside0.mk (show w39.drew.heap[gb]? = _ from bs BK.out)
   have n1 := Aside0.mk (show w39.drew.heap[gc]? = _ from bs BC.out)
   have n2 := Aside0.mk (below_drew1 HB.out)
   replace BK := n0
   replace BC := n1
   replace HB := n2
   clear n0 n1 n2
   refine start_ (n := 15) (S := fun w' => w'.cell? ⟨gb, 0, none⟩ = some (.slice A0_0 l0_0.length c0_0) ∧ w'.cell? ⟨gb, 1, none⟩ = some (.slice A0_1 l0_1.length c0_1) ∧ w'.cell? ⟨gb, 2, none⟩ = some (.slice A0_2 l0_2.length c0_2) ∧ w'.cell? ⟨gc, 0, none⟩ = some (.int .i64 p.f0) ∧ w'.cell? ⟨gc, 1, none⟩ = some (.int .i64 p.f1)) (ds := [9]) q19_4 (by kernel_rfl) rfl rfl ⟨(blk_cell BK.out 0).trans rfl, (blk_cell BK.out 1).trans rfl, (blk_cell BK.out 2).trans rfl, (blk_cell BC.out 0).trans rfl, (blk_cell BC.out 1).trans rfl⟩ (fun hHeld => ?_)
   generalize w39.drew = w20 at BK BC HB hHeld ⊢
   refine puq_ (i := 1) (N := some 43) rfl rfl (by kernel_rfl) (fun _ _ _ h => h) (Or.inl ⟨by rfl, by intro w'; go_simp; with_reducible rfl⟩) (by simp only [aq_]; rfl) ?_
   refine puq_ (i := 2) (N := some 44) rfl rfl (by kernel_rfl) (fun _ _ _ h => h) (Or.inl ⟨by rfl, by intro w'; go_simp; with_reducible rfl⟩) (by simp only [aq_]; rfl) ?_
   refine puq_ (i := 4) (N := some 46) rfl rfl (by kernel_rfl) (fun _ _ _ h => h) (Or.inl ⟨by rfl, by intro w'; go_simp; with_reducible rfl⟩) (by simp only [aq_]; rfl) ?_
   refine puq_ (i := 7) (N := some 49) rfl rfl (by kernel_rfl) (fun _ _ _ h => h) (Or.inl ⟨by rfl, by intro w'; go_simp; with_reducible rfl⟩) (by simp only [aq_]; rfl) ?_
   refine puq_ (i := 8) (N := some 50) rfl rfl (by kernel_rfl) (fun _ _ _ h => h) (Or.inl ⟨by rfl, by intro w'; go_simp; with_reducible rfl⟩) (by simp only [aq_]; rfl) ?_
   refine take_ (i := 0) (N := some 42) (v := ?_) (a' := ?_) q19_5 rfl rfl (by kernel_rfl) (fun _ _ _ h => h) (Or.inl ⟨by rfl, ?_⟩) hHeld ?_ ?_
   rotate_left
   ·rintro w' ⟨s0, s1, s2, s3, s4⟩
    go_simp
    with_reducible rfl
   rotate_left
   ·simp only [aq_]
    rfl
   refine take_ (i := 3) (N := some 45) (v := ?_) (a' := ?_) q19_6 rfl rfl (by kernel_rfl) (fun _ _ _ h => h) (Or.inl ⟨by rfl, ?_⟩) hHeld ?_ ?_
   rotate_left
   ·rintro w' ⟨s0, s1, s2, s3, s4⟩
    go_simp
    with_reducible rfl
   rotate_left
   ·simp only [aq_]
    rfl
   refine take_ (i := 5) (N := some 47) (v := ?_) (a' := ?_) q19_7 rfl rfl (by kernel_rfl) (fun _ _ _ h => h) (Or.inl ⟨by rfl, ?_⟩) hHeld ?_ ?_
   rotate_left
   ·rintro w' ⟨s0, s1, s2, s3, s4⟩
    go_simp
    with_reducible rfl
   rotate_left
   ·simp only [aq_]
    rfl
   refine one_ (i := 6) (N := some 48) q19_8 rfl rfl (by kernel_rfl) (by decide) (fun K hK => ?_)
   refine goes_ Try.func34 (by kernel_rfl) rfl #[.slice A1 l1.length c1, .int .i64 p.f0, .int .i64 p.f1] (by rfl) rfl rfl (by (try simp only [mA_]); first | done | rfl) ?_
   with_reducible refine (impl_withArc.calls A1 c1 l1 p.f0 p.f1 x1 _ (Kd.C_below HR1.out HB.out) HC1.out AX1.out).mono ?_
   rintro e w40 ⟨v40, rfl, hR40, hb2⟩
   refine ⟨_, rfl, ?_⟩
   have HO40 := Aside0.mk hR40
   clear hR40
   obtain ⟨A40, c40, e40⟩ := Kd.R_slice HO40.out
   subst e40
   have n0 := Aside0.mk (blk_below (bs BK.out) hb2)
   have n1 := Aside0.mk (blk_below (bs BC.out) hb2)
   have n2 := Aside0.mk (below_step (bw HB.out) hb2)
   replace BK := n0
   replace BC := n1
   replace HB := n2
   clear n0 n1 n2 hb2
   refine hK.out _ _ ⟨(blk_cell BK.out 0).trans rfl, (blk_cell BK.out 1).trans rfl, (blk_cell BK.out 2).trans rfl, (blk_cell BC.out 0).trans rfl, (blk_cell BC.out 1).trans rfl⟩ (fun hHeld => ?_)
   clear hK K
   refine norm_ (a' := ?_) ?_ ?_
   rotate_left
   ·show Act.put _ (some 48) _ = _
    simp only [aq_]
    rfl
   refine last_ (i := 9) (N := some 51) q19_9 rfl rfl (by kernel_rfl) (by decide) (fun K hK => ?_)
   refine goes_ Try.func19 (by kernel_rfl) rfl #[.agg #[.slice A0_0 l0_0.length c0_0, .slice A0_1 l0_1.length c0_1, .slice A0_2 l0_2.length c0_2], .slice A40 (x1).length c40, .int .i64 a2, .slice A4 (ln - 1) (c3 - 1)] (by rfl) rfl rfl (by (try simp only [mA_]); first | done | rfl) ?_
   rw [← HLR.out.1]
   with_reducible refine (HIH.out A0_0 c0_0 l0_0 A0_1 c0_1 l0_1 A0_2 c0_2 l0_2 A40 c40 x1 a2 _ (c3 - 1) rest t1 t2 w0 _ (Kd.C_below HR00.out HB.out) HC00.out (Kd.C_below HR01.out HB.out) HC01.out (Kd.C_below HR02.out HB.out) HC02.out (Kd.R_reads' HO40.out).2.2 (Kd.R_reads' HO40.out).2.1 HTL.out (by have := HLR.out; omega) (below_step HB0.out HB.out) AT.out).mono ?_
   rintro e w53 ⟨A5, c5, rfl, hC5, hc5, hb2⟩
   refine ⟨_, rfl, ?_⟩
   have n0 := Aside0.mk (blk_below (bs BK.out) hb2)
   have n1 := Aside0.mk (blk_below (bs BC.out) hb2)
   have n2 := Aside0.mk (below_step (bw HB.out) hb2)
   replace BK := n0
   replace BC := n1
   replace HB := n2
   clear n0 n1 n2 hb2
   have HC5 := Aside0.mk hC5
   have HCC5 := Aside0.mk hc5
   clear hC5 hc5 HO40
   refine hK.out _ _ ?_
   clear hK K
   refine norm_ (a' := ?_) ?_ ?_
   rotate_left
   ·show Act.put _ (some 51) _ = _
    simp only [aq_]
    rfl
   refine puq_ (i := 10) (N := some 41) rfl rfl (by kernel_rfl) (fun _ _ _ h => h) (Or.inl ⟨by rfl, by intro w'; go_simp; with_reducible rfl⟩) (by simp only [aq_]; rfl) ?_
   refine puq_ (i := 11) (N := some 52) rfl rfl (by kernel_rfl) (fun _ _ _ h => h) (Or.inl ⟨by rfl, by intro w'; go_simp; with_reducible rfl⟩) (by simp only [aq_]; rfl) ?_
   refine puq_ (i := 12) (N := some 53) rfl rfl (by kernel_rfl) (fun _ _ _ h => h) (Or.inl ⟨by rfl, by intro w'; go_simp; with_reducible rfl⟩) (by simp only [aq_]; rfl) ?_
   refine puq_ (i := 13) (N := some 11) rfl rfl (by kernel_rfl) (fun _ _ _ h => h) (Or.inl ⟨by rfl, by intro w'; go_simp; with_reducible rfl⟩) (by simp only [aq_]; rfl) ?_
   refine puq_ (i := 14) (N := some 12) rfl rfl (by kernel_rfl) (fun _ _ _ h => h) (Or.inl ⟨by rfl, by intro w'; go_simp; with_reducible rfl⟩) (by simp only [aq_]; rfl) ?_
   refine done_ (by kernel_rfl) ?_
   cases t2 with
   | false =>
    have h2 := H3.out
    simp only [Bool.false_eq_true, if_false, Option.some.injEq, Prod.mk.injEq] at h2
    obtain ⟨rfl, rfl⟩ := h2
    clear H3
    go_wp2
    go_ret2
    exact ⟨none, 0, rfl, Kd.C_nil _ _, Nat.le_refl _, HB.out⟩
   | true =>
    have h2 := H3.out
    rw [if_pos rfl] at h2
    replace h2 := Option.bind_eq_some_iff.mp h2
    obtain ⟨x2, hx2, h2⟩ := h2
    have AX2 := Aside0.mk hx2
    have AT2 := Aside0.mk h2
    have HT2 := Aside0.mk HCC5.out
    have HTC := Aside0.mk HC5.out
    clear H3 h2 hx2 HC5 HCC5
    generalize A5 = A6 at HTC ⊢
    generalize c5 = c6 at HT2 ⊢
    go_wp2
    have n0 := Aside0.mk (show w53.drew.heap[gb]? = _ from bs BK.out)
    have n1 := Aside0.mk (show w53.drew.heap[gc]? = _ from bs BC.out)
    have n2 := Aside0.mk (below_drew1 HB.out)
    replace BK := n0
    replace BC := n1
    replace HB := n2
    clear n0 n1 n2
    refine start_ (n := 14) (S := fun w' => w'.cell? ⟨gb, 0, none⟩ = some (.slice A0_0 l0_0.length c0_0) ∧ w'.cell? ⟨gb, 1, none⟩ = some (.slice A0_1 l0_1.length c0_1) ∧ w'.cell? ⟨gb, 2, none⟩ = some (.slice A0_2 l0_2.length c0_2) ∧ w'.cell? ⟨gc, 0, none⟩ = some (.int .i64 p.f0) ∧ w'.cell? ⟨gc, 1, none⟩ = some (.int .i64 p.f1)) (ds := [9]) q19_10 (by kernel_rfl) rfl rfl ⟨(blk_cell BK.out 0).trans rfl, (blk_cell BK.out 1).trans rfl, (blk_cell BK.out 2).trans rfl, (blk_cell BC.out 0).trans rfl, (blk_cell BC.out 1).trans rfl⟩ (fun hHeld => ?_)
    generalize w53.drew = w20 at BK BC HB hHeld ⊢
    refine puq_ (i := 1) (N := some 57) rfl rfl (by kernel_rfl) (fun _ _ _ h => h) (Or.inl ⟨by rfl, by intro w'; go_simp; with_reducible rfl⟩) (by simp only [aq_]; rfl) ?_
    refine puq_ (i := 2) (N := some 58) rfl rfl (by kernel_rfl) (fun _ _ _ h => h) (Or.inl ⟨by rfl, by intro w'; go_simp; with_reducible rfl⟩) (by simp only [aq_]; rfl) ?_
    refine puq_ (i := 4) (N := some 60) rfl rfl (by kernel_rfl) (fun _ _ _ h => h) (Or.inl ⟨by rfl, by intro w'; go_simp; with_reducible rfl⟩) (by simp only [aq_]; rfl) ?_
    refine puq_ (i := 7) (N := some 63) rfl rfl (by kernel_rfl) (fun _ _ _ h => h) (Or.inl ⟨by rfl, by intro w'; go_simp; with_reducible rfl⟩) (by simp only [aq_]; rfl) ?_
    refine puq_ (i := 8) (N := some 64) rfl rfl (by kernel_rfl) (fun _ _ _ h => h) (Or.inl ⟨by rfl, by intro w'; go_simp; with_reducible rfl⟩) (by simp only [aq_]; rfl) ?_
    refine take_ (i := 0) (N := some 56) (v := ?_) (a' := ?_) q19_11 rfl rfl (by kernel_rfl) (fun _ _ _ h => h) (Or.inl ⟨by rfl, ?_⟩) hHeld ?_ ?_
    rotate_left
    ·rintro w' ⟨s0, s1, s2, s3, s4⟩
     go_simp
     with_reducible rfl
    rotate_left
    ·simp only [aq_]
     rfl
    refine take_ (i := 3) (N := some 59) (v := ?_) (a' := ?_) q19_12 rfl rfl (by kernel_rfl) (fun _ _ _ h => h) (Or.inl ⟨by rfl, ?_⟩) hHeld ?_ ?_
    rotate_left
    ·rintro w' ⟨s0, s1, s2, s3, s4⟩
     go_simp
     with_reducible rfl
    rotate_left
    ·simp only [aq_]
     rfl
    refine take_ (i := 5) (N := some 61) (v := ?_) (a' := ?_) q19_13 rfl rfl (by kernel_rfl) (fun _ _ _ h => h) (Or.inl ⟨by rfl, ?_⟩) hHeld ?_ ?_
    rotate_left
    ·rintro w' ⟨s0, s1, s2, s3, s4⟩
     go_simp
     with_reducible rfl
    rotate_left
    ·simp only [aq_]
     rfl
    refine one_ (i := 6) (N := some 62) q19_14 rfl rfl (by kernel_rfl) (by decide) (fun K hK => ?_)
    refine goes_ Try.func34 (by kernel_rfl) rfl #[.slice A1 l1.length c1, .int .i64 p.f1, .int .i64 p.f0] (by rfl) rfl rfl (by (try simp only [mA_]); first | done | rfl) ?_
    with_reducible refine (impl_withArc.calls A1 c1 l1 p.f1 p.f0 x2 _ (Kd.C_below HR1.out HB.out) HC1.out AX2.out).mono ?_
    rintro e w40 ⟨v40, rfl, hR40, hb2⟩
    refine ⟨_, rfl, ?_⟩
    have HO40 := Aside0.mk hR40
    clear hR40
    obtain ⟨A40, c40, e40⟩ := Kd.R_slice HO40.out
    subst e40
    have n0 := Aside0.mk (blk_below (bs BK.out) hb2)
    have n1 := Aside0.mk (blk_below (bs BC.out) hb2)
    have n2 := Aside0.mk (below_step (bw HB.out) hb2)
    replace BK := n0
    replace BC := n1
    replace HB := n2
    clear n0 n1 n2 hb2
    refine hK.out _ _ ⟨(blk_cell BK.out 0).trans rfl, (blk_cell BK.out 1).trans rfl, (blk_cell BK.out 2).trans rfl, (blk_cell BC.out 0).trans rfl, (blk_cell BC.out 1).trans rfl⟩ (fun hHeld => ?_)
    clear hK K
    refine norm_ (a' := ?_) ?_ ?_
    rotate_left
    ·show Act.put _ (some 62) _ = _
     simp only [aq_]
     rfl
    refine last_ (i := 9) (N := some 65) q19_15 rfl rfl (by kernel_rfl) (by decide) (fun K hK => ?_)
    refine goes_ Try.func19 (by kernel_rfl) rfl #[.agg #[.slice A0_0 l0_0.length c0_0, .slice A0_1 l0_1.length c0_1, .slice A0_2 l0_2.length c0_2], .slice A40 (x2).length c40, .int .i64 a2, .slice A6 t1.length c6] (by rfl) rfl rfl (by (try simp only [mA_]); first | done | rfl) ?_
    with_reducible refine (HIH.out A0_0 c0_0 l0_0 A0_1 c0_1 l0_1 A0_2 c0_2 l0_2 A40 c40 x2 a2 A6 c6 t1 r1 r2 w0 _ (Kd.C_below HR00.out HB.out) HC00.out (Kd.C_below HR01.out HB.out) HC01.out (Kd.C_below HR02.out HB.out) HC02.out (Kd.R_reads' HO40.out).2.2 (Kd.R_reads' HO40.out).2.1 HTC.out HT2.out (below_step HB0.out HB.out) AT2.out).mono ?_
    rintro e w53 ⟨A5, c5, rfl, hC5, hc5, hb2⟩
    refine ⟨_, rfl, ?_⟩
    have n0 := Aside0.mk (blk_below (bs BK.out) hb2)
    have n1 := Aside0.mk (blk_below (bs BC.out) hb2)
    have n2 := Aside0.mk (below_step (bw HB.out) hb2)
    replace BK := n0
    replace BC := n1
    replace HB := n2
    clear n0 n1 n2 hb2
    have HC5 := Aside0.mk hC5
    have HCC5 := Aside0.mk hc5
    clear hC5 hc5 HO40
    refine hK.out _ _ ?_
    clear hK K
    refine norm_ (a' := ?_) ?_ ?_
    rotate_left
    ·show Act.put _ (some 65) _ = _
     simp only [aq_]
     rfl
    refine puq_ (i := 10) (N := some 66) rfl rfl (by kernel_rfl) (fun _ _ _ h => h) (Or.inl ⟨by rfl, by intro w'; go_simp; with_reducible rfl⟩) (by simp only [aq_]; rfl) ?_
    refine puq_ (i := 11) (N := some 67) rfl rfl (by kernel_rfl) (fun _ _ _ h => h) (Or.inl ⟨by rfl, by intro w'; go_simp; with_reducible rfl⟩) (by simp only [aq_]; rfl) ?_
    refine puq_ (i := 12) (N := some 8) rfl rfl (by kernel_rfl) (fun _ _ _ h => h) (Or.inl ⟨by rfl, by intro w'; go_simp; with_reducible rfl⟩) (by simp only [aq_]; rfl) ?_
    refine puq_ (i := 13) (N := some 9) rfl rfl (by kernel_rfl) (fun _ _ _ h => h) (Or.inl ⟨by rfl, by intro w'; go_simp; with_reducible rfl⟩) (by simp only [aq_]; rfl) ?_
    refine done_ (by kernel_rfl) ?_
    go_wp2
    go_ret2
    exact ⟨_, _, rfl, HC5.out, HCC5.out, HB.out⟩

/-! ### impl_IsShopProof: function 9 -/
def impl_IsShopProof.f (k : Nat) (a0_0 : Int) (l0_1 : List (List (S62))) (a1 : Int) (l2 : List (S43)) : Option (Bool × Bool) := (impl_IsJobShop.f k a0_0 l0_1).bind fun b => if b = true then (if (l2.length : Int) > 800 then some (false, true) else (impl_flatOf.f k a0_0 l0_1).bind fun q => (impl_flat_proved.f k q.1 q.2.1 q.2.2 [] a1 l2).bind fun t => some (t.2 && decide (t.1.length = 0), true)) else some (false, false)
theorem impl_IsShopProof.mono : ∀ a0 a1 a2 a3 k, LeO (impl_IsShopProof.f k a0 a1 a2 a3) (impl_IsShopProof.f (k + 1) a0 a1 a2 a3) := fun a0 a1 a2 a3 k => LeO.bind (impl_IsJobShop.mono _ _ k) (fun _ => LeO.ite (LeO.ite (LeO.refl _) (LeO.bind (impl_flatOf.mono _ _ k) (fun _ => LeO.bind (impl_flat_proved.mono _ _ _ _ _ _ k) (fun _ => LeO.refl _)))) (LeO.refl _))
set_option maxHeartbeats 1600000 in
set_option maxRecDepth 100000 in
theorem impl_IsShopProof.calls (k : Nat) (a0_0 : Int) (A0_1 : Option Addr) (c0_1 : Nat) (l0_1 : List (List (S62))) (a1 : Int) (A2 : Option Addr) (c2 : Nat) (l2 : List (S43)) (r1 : Bool) (r2 : Bool) (w : World) (hr0_1 : Kd.C (Kd.slice 62 k62) w A0_1 l0_1.length l0_1) (hc0_1 : l0_1.length ≤ c0_1) (hr2 : Kd.C k43 w A2 l2.length l2) (hc2 : l2.length ≤ c2) (h : impl_IsShopProof.f k a0_0 l0_1 a1 l2 = some (r1, r2)) :
  Calls Try.prog 9 #[.agg #[.int .i64 a0_0, .slice A0_1 l0_1.length c0_1], .int .i64 a1, .slice A2 l2.length c2] w fun e w' => e = .returned (.tuple #[.bool r1, .bool r2]) ∧ Below w.heap.size w w' := by
 have hu1 := Try.underlying32
 unfold impl_IsShopProof.f at h
 replace h := Option.bind_eq_some_iff.mp h
 obtain ⟨b, hb, h⟩ := h
 have A1 := Aside0.mk hb
 have HR01 := Aside0.mk hr0_1
 have HC01 := Aside0.mk hc0_1
 have HR2 := Aside0.mk hr2
 have HC2 := Aside0.mk hc2
 have HB := Aside0.mk (Below.refl w.heap.size w)
 clear hb hr0_1 hc0_1 hr2 hc2
 cases b with
 | false =>
  simp only [Bool.false_eq_true, if_false, Option.some.injEq, Prod.mk.injEq] at h
  obtain ⟨rfl, rfl⟩ := h
  go_enter Try.func9, Try.ntmps9
  go_wp2_with (first | ((with_reducible refine gate_dst (N := 3) rfl ?_); refine box_event ?hg (N := 3) ?hd (cs := #[.int .i64 a0_0, .slice A0_1 l0_1.length c0_1]) (t := 32) ?hr ?_; (case hd => rfl); (case hg => rfl); (case hr => first | (go_simp; done) | (go_simp; rfl)); intro gb hg w5 hbox hb; have n0_ := Aside0.mk (below_step (bw HB.out) hb); have n1_ := Aside0.mk hbox; replace HB := n0_; have BK := n1_; clear n0_ n1_ hb hbox hg; obtain ⟨hcz0, hcz1, hfz0, hfz1⟩ := bz2 BK.out) | ((with_reducible refine gate_callee (f := 17) rfl ?_); refine goesL_ (some 11) rfl rfl Try.func17 (by kernel_rfl) rfl #[.agg #[.int .i64 a0_0, .slice A0_1 l0_1.length c0_1]] rfl (by (try simp only [mA_]); first | done | rfl) ?_; (with_reducible refine (impl_IsJobShop.calls k a0_0 A0_1 c0_1 l0_1 false _ ?s1 HC01.out A1.out).mono ?_); (case s1 => exact bC HR01.out HB.out); rintro e w9 ⟨rfl, hb⟩; refine ⟨_, rfl, ?_⟩; have n0_ := Aside0.mk (blk_below (bs BK.out) hb); have n1_ := Aside0.mk (below_step (bw HB.out) hb); replace BK := n0_; replace HB := n1_; clear n0_ n1_ hb hcz0 hcz1 hfz0 hfz1; obtain ⟨hcz0, hcz1, hfz0, hfz1⟩ := bz2 BK.out))
  go_ret2
  exact ⟨rfl, HB.out⟩
 | true =>
  rw [if_pos rfl] at h
  by_cases hl : (l2.length : Int) > 800
  ·rw [if_pos hl] at h
   simp only [Option.some.injEq, Prod.mk.injEq] at h
   obtain ⟨rfl, rfl⟩ := h
   have d1 : decide ((800 : Int) < (l2.length : Int)) = true := decide_eq_true hl
   have d1n : decide (800 < l2.length) = true := decide_eq_true (by omega)
   clear hl
   go_enter Try.func9, Try.ntmps9
   go_wp2_with (first | ((with_reducible refine gate_dst (N := 3) rfl ?_); refine box_event ?hg (N := 3) ?hd (cs := #[.int .i64 a0_0, .slice A0_1 l0_1.length c0_1]) (t := 32) ?hr ?_; (case hd => rfl); (case hg => rfl); (case hr => first | (go_simp; done) | (go_simp; rfl)); intro gb hg w5 hbox hb; have n0_ := Aside0.mk (below_step (bw HB.out) hb); have n1_ := Aside0.mk hbox; replace HB := n0_; have BK := n1_; clear n0_ n1_ hb hbox hg; obtain ⟨hcz0, hcz1, hfz0, hfz1⟩ := bz2 BK.out) | ((with_reducible refine gate_callee (f := 17) rfl ?_); refine goesL_ (some 11) rfl rfl Try.func17 (by kernel_rfl) rfl #[.agg #[.int .i64 a0_0, .slice A0_1 l0_1.length c0_1]] rfl (by (try simp only [mA_]); first | done | rfl) ?_; (with_reducible refine (impl_IsJobShop.calls k a0_0 A0_1 c0_1 l0_1 true _ ?s1 HC01.out A1.out).mono ?_); (case s1 => exact bC HR01.out HB.out); rintro e w9 ⟨rfl, hb⟩; refine ⟨_, rfl, ?_⟩; have n0_ := Aside0.mk (blk_below (bs BK.out) hb); have n1_ := Aside0.mk (below_step (bw HB.out) hb); replace BK := n0_; replace HB := n1_; clear n0_ n1_ hb hcz0 hcz1 hfz0 hfz1; obtain ⟨hcz0, hcz1, hfz0, hfz1⟩ := bz2 BK.out))
   go_ret2
   exact ⟨rfl, HB.out⟩
  rw [if_neg hl] at h
  have d1 : decide ((800 : Int) < (l2.length : Int)) = false := decide_eq_false hl
  have d1n : decide (800 < l2.length) = false := decide_eq_false (by omega)
  replace h := Option.bind_eq_some_iff.mp h
  obtain ⟨q, hq, h⟩ := h
  obtain ⟨q1, q2, q3⟩ := q
  have AQ := Aside0.mk hq
  clear hq
  replace h := Option.bind_eq_some_iff.mp h
  obtain ⟨t, ht, h⟩ := h
  obtain ⟨t1, t2⟩ := t
  simp only [Option.some.injEq, Prod.mk.injEq] at h
  obtain ⟨h1, rfl⟩ := h
  have AT := Aside0.mk ht
  have HT1 := Aside0.mk h1
  clear h1 ht hl
  go_enter Try.func9, Try.ntmps9
  cases t2 with
  | false =>
   go_wp2_with (first | ((with_reducible refine gate_dst (N := 3) rfl ?_); refine box_event ?hg (N := 3) ?hd (cs := #[.int .i64 a0_0, .slice A0_1 l0_1.length c0_1]) (t := 32) ?hr ?_; (case hd => rfl); (case hg => rfl); (case hr => first | (go_simp; done) | (go_simp; rfl)); intro gb hg w5 hbox hb; have n0_ := Aside0.mk (below_step (bw HB.out) hb); have n1_ := Aside0.mk hbox; replace HB := n0_; have BK := n1_; clear n0_ n1_ hb hbox hg; obtain ⟨hcz0, hcz1, hfz0, hfz1⟩ := bz2 BK.out) | ((with_reducible refine gate_callee (f := 17) rfl ?_); refine goesL_ (some 11) rfl rfl Try.func17 (by kernel_rfl) rfl #[.agg #[.int .i64 a0_0, .slice A0_1 l0_1.length c0_1]] rfl (by (try simp only [mA_]); first | done | rfl) ?_; (with_reducible refine (impl_IsJobShop.calls k a0_0 A0_1 c0_1 l0_1 true _ ?s1 HC01.out A1.out).mono ?_); (case s1 => exact bC HR01.out HB.out); rintro e w9 ⟨rfl, hb⟩; refine ⟨_, rfl, ?_⟩; have n0_ := Aside0.mk (blk_below (bs BK.out) hb); have n1_ := Aside0.mk (below_step (bw HB.out) hb); replace BK := n0_; replace HB := n1_; clear n0_ n1_ hb hcz0 hcz1 hfz0 hfz1; obtain ⟨hcz0, hcz1, hfz0, hfz1⟩ := bz2 BK.out) | ((with_reducible refine gate_callee (f := 18) rfl ?_); refine goesL_ (some 18) rfl rfl Try.func18 (by kernel_rfl) rfl #[.agg #[.int .i64 a0_0, .slice A0_1 l0_1.length c0_1]] rfl (by (try simp only [mA_]); first | done | rfl) ?_; (with_reducible refine (impl_flatOf.calls k a0_0 A0_1 c0_1 l0_1 q1 q2 q3 _ ?s1 HC01.out AQ.out).mono ?_); (case s1 => exact bC HR01.out HB.out); rintro e w18 ⟨v0, v1, v2, rfl, hR0, hR1, hR2, hb⟩; refine ⟨_, rfl, ?_⟩; have HO0 := Aside0.mk hR0; have HO1 := Aside0.mk hR1; have HO2 := Aside0.mk hR2; clear hR0 hR1 hR2; have n0_ := Aside0.mk (blk_below (bs BK.out) hb); have n1_ := Aside0.mk (below_step (bw HB.out) hb); replace BK := n0_; replace HB := n1_; clear n0_ n1_ hb hcz0 hcz1 hfz0 hfz1; obtain ⟨hcz0, hcz1, hfz0, hfz1⟩ := bz2 BK.out; obtain ⟨X0, y0, z0⟩ := Kd.R_slice HO0.out; subst z0; obtain ⟨X1, y1, z1⟩ := Kd.R_slice HO1.out; subst z1; obtain ⟨X2, y2, z2⟩ := Kd.R_slice HO2.out; subst z2) | ((with_reducible refine gate_callee (f := 19) rfl ?_); refine goesL_ (some 21) rfl rfl Try.func19 (by kernel_rfl) rfl #[.agg #[.slice X0 q1.length y0, .slice X1 q2.length y1, .slice X2 q3.length y2], .slice none ([] : List (S43)).length 0, .int .i64 a1, .slice A2 l2.length c2] rfl (by (try simp only [mA_]); first | done | rfl) ?_; (with_reducible refine (impl_flat_proved.calls k X0 y0 q1 X1 y1 q2 X2 y2 q3 none 0 [] a1 A2 c2 l2 t1 _ w _ (Kd.R_reads' HO0.out).2.2 (Kd.R_reads' HO0.out).2.1 (Kd.R_reads' HO1.out).2.2 (Kd.R_reads' HO1.out).2.1 (Kd.R_reads' HO2.out).2.2 (Kd.R_reads' HO2.out).2.1 (Kd.C_nil _ _) (Nat.le_refl _) HR2.out HC2.out ?s4 AT.out).mono ?_); (case s4 => exact bw HB.out); rintro e w21 ⟨A5, c5, rfl, hC5, hc5, hb⟩; refine ⟨_, rfl, ?_⟩; clear hC5 hc5; have n0_ := Aside0.mk (blk_below (bs BK.out) hb); have n1_ := Aside0.mk (below_step (bw HB.out) hb); replace BK := n0_; replace HB := n1_; clear n0_ n1_ hb hcz0 hcz1 hfz0 hfz1; obtain ⟨hcz0, hcz1, hfz0, hfz1⟩ := bz2 BK.out; generalize hT1 : t1.length = tl at HT1 ⊢))
   have hT := HT1.out
   go_ret2
   exact ⟨by rw [← hT, Bool.false_and]; rfl, HB.out⟩
  | true =>
   go_wp2_with (first | ((with_reducible refine gate_dst (N := 3) rfl ?_); refine box_event ?hg (N := 3) ?hd (cs := #[.int .i64 a0_0, .slice A0_1 l0_1.length c0_1]) (t := 32) ?hr ?_; (case hd => rfl); (case hg => rfl); (case hr => first | (go_simp; done) | (go_simp; rfl)); intro gb hg w5 hbox hb; have n0_ := Aside0.mk (below_step (bw HB.out) hb); have n1_ := Aside0.mk hbox; replace HB := n0_; have BK := n1_; clear n0_ n1_ hb hbox hg; obtain ⟨hcz0, hcz1, hfz0, hfz1⟩ := bz2 BK.out) | ((with_reducible refine gate_callee (f := 17) rfl ?_); refine goesL_ (some 11) rfl rfl Try.func17 (by kernel_rfl) rfl #[.agg #[.int .i64 a0_0, .slice A0_1 l0_1.length c0_1]] rfl (by (try simp only [mA_]); first | done | rfl) ?_; (with_reducible refine (impl_IsJobShop.calls k a0_0 A0_1 c0_1 l0_1 true _ ?s1 HC01.out A1.out).mono ?_); (case s1 => exact bC HR01.out HB.out); rintro e w9 ⟨rfl, hb⟩; refine ⟨_, rfl, ?_⟩; have n0_ := Aside0.mk (blk_below (bs BK.out) hb); have n1_ := Aside0.mk (below_step (bw HB.out) hb); replace BK := n0_; replace HB := n1_; clear n0_ n1_ hb hcz0 hcz1 hfz0 hfz1; obtain ⟨hcz0, hcz1, hfz0, hfz1⟩ := bz2 BK.out) | ((with_reducible refine gate_callee (f := 18) rfl ?_); refine goesL_ (some 18) rfl rfl Try.func18 (by kernel_rfl) rfl #[.agg #[.int .i64 a0_0, .slice A0_1 l0_1.length c0_1]] rfl (by (try simp only [mA_]); first | done | rfl) ?_; (with_reducible refine (impl_flatOf.calls k a0_0 A0_1 c0_1 l0_1 q1 q2 q3 _ ?s1 HC01.out AQ.out).mono ?_); (case s1 => exact bC HR01.out HB.out); rintro e w18 ⟨v0, v1, v2, rfl, hR0, hR1, hR2, hb⟩; refine ⟨_, rfl, ?_⟩; have HO0 := Aside0.mk hR0; have HO1 := Aside0.mk hR1; have HO2 := Aside0.mk hR2; clear hR0 hR1 hR2; have n0_ := Aside0.mk (blk_below (bs BK.out) hb); have n1_ := Aside0.mk (below_step (bw HB.out) hb); replace BK := n0_; replace HB := n1_; clear n0_ n1_ hb hcz0 hcz1 hfz0 hfz1; obtain ⟨hcz0, hcz1, hfz0, hfz1⟩ := bz2 BK.out; obtain ⟨X0, y0, z0⟩ := Kd.R_slice HO0.out; subst z0; obtain ⟨X1, y1, z1⟩ := Kd.R_slice HO1.out; subst z1; obtain ⟨X2, y2, z2⟩ := Kd.R_slice HO2.out; subst z2) | ((with_reducible refine gate_callee (f := 19) rfl ?_); refine goesL_ (some 21) rfl rfl Try.func19 (by kernel_rfl) rfl #[.agg #[.slice X0 q1.length y0, .slice X1 q2.length y1, .slice X2 q3.length y2], .slice none ([] : List (S43)).length 0, .int .i64 a1, .slice A2 l2.length c2] rfl (by (try simp only [mA_]); first | done | rfl) ?_; (with_reducible refine (impl_flat_proved.calls k X0 y0 q1 X1 y1 q2 X2 y2 q3 none 0 [] a1 A2 c2 l2 t1 _ w _ (Kd.R_reads' HO0.out).2.2 (Kd.R_reads' HO0.out).2.1 (Kd.R_reads' HO1.out).2.2 (Kd.R_reads' HO1.out).2.1 (Kd.R_reads' HO2.out).2.2 (Kd.R_reads' HO2.out).2.1 (Kd.C_nil _ _) (Nat.le_refl _) HR2.out HC2.out ?s4 AT.out).mono ?_); (case s4 => exact bw HB.out); rintro e w21 ⟨A5, c5, rfl, hC5, hc5, hb⟩; refine ⟨_, rfl, ?_⟩; clear hC5 hc5; have n0_ := Aside0.mk (blk_below (bs BK.out) hb); have n1_ := Aside0.mk (below_step (bw HB.out) hb); replace BK := n0_; replace HB := n1_; clear n0_ n1_ hb hcz0 hcz1 hfz0 hfz1; obtain ⟨hcz0, hcz1, hfz0, hfz1⟩ := bz2 BK.out; generalize hT1 : t1.length = tl at HT1 ⊢))
   have hT := HT1.out
   go_ret2
   exact ⟨by rw [← hT, Bool.true_and]; first | rfl | (congr 3; cases tl <;> simp <;> omega), HB.out⟩

/-! ### laws_eqOp: function 44 -/
def laws_eqOp.f (a0_0 : Int) (a0_1 : Int) (a1_0 : Int) (a1_1 : Int) : Option (Bool) := if a0_0 = a1_0 then (if a0_1 = a1_1 then (some true) else (some false)) else (some false)
set_option maxHeartbeats 8000000 in
set_option maxRecDepth 100000 in
theorem laws_eqOp.calls (a0_0 : Int) (a0_1 : Int) (a1_0 : Int) (a1_1 : Int) (r : Bool) (w : World) (h : laws_eqOp.f a0_0 a0_1 a1_0 a1_1 = some r) :
  Calls Try.prog 44 #[.agg #[.int .i64 a0_0, .int .i64 a0_1], .agg #[.int .i64 a1_0, .int .i64 a1_1]] w fun e w' => e = .returned (.bool r) ∧ Below w.heap.size w w' := by
 have hu62 := Try.underlying62
 have HB := Aside0.mk (Below.refl w.heap.size w)
 have H : (if a0_0 = a1_0 then (if a0_1 = a1_1 then (some true) else (some false)) else (some false)) = some r := h
 clear h
 by_cases c3 : a0_0 = a1_0
 rotate_left
 ·rw [if_neg c3] at H
  have c3b0 : (a0_0 == a1_0) = false := beq_eq_false_iff_ne.mpr c3
  have c3b1 : (a0_0 != a1_0) = true := bne_iff_ne.mpr c3
  obtain rfl := Option.some.inj H
  go_enter Try.func44, Try.ntmps44
  go_wp2_with (first | ((with_reducible refine gate_dst (N := 2) rfl ?_); refine box_event ?hg (N := 2) ?hd (cs := #[.int .i64 a0_0, .int .i64 a0_1]) (t := 62) ?hr ?_; (case hd => rfl); (case hg => rfl); (case hr => first | (go_simp; done) | (go_simp; rfl)); intro gb321 hg w15 hbox hb; have n0_ := Aside0.mk (below_step (bw HB.out) hb); have n1_ := Aside0.mk (hbox); have n2_ := ge_ hg HB.out; have n3_ := ge_ hg HB.out; replace HB := n0_; have BK321 := n1_; have GW321 := n2_; have GE321 := n3_; clear n0_ n1_ n2_ n3_; clear hb hbox hg) | ((with_reducible refine gate_dst (N := 3) rfl ?_); refine box_event ?hg (N := 3) ?hd (cs := #[.int .i64 a1_0, .int .i64 a1_1]) (t := 62) ?hr ?_; (case hd => rfl); (case hg => rfl); (case hr => first | (go_simp; done) | (go_simp; rfl)); intro gb322 hg w16 hbox hb; have n0_ := Aside0.mk (blk_below (bs BK321.out) hb); have n1_ := Aside0.mk (below_step (by repeat (first | (with_reducible first | exact bw HB.out | refine bset ?_ | apply bA | apply bN | apply bD) | exact HB.out)) hb); have n2_ := Aside0.mk (hbox); have n3_ := Aside0.mk ((by rw [hg]; exact (below_size (by repeat (first | (with_reducible first | exact bw HB.out | refine bset ?_ | apply bA | apply bN | apply bD) | exact HB.out))) : w.heap.size ≤ gb322)); have n4_ := Aside0.mk ((by rw [hg]; exact (below_size (by repeat (first | (with_reducible first | exact bw HB.out | refine bset ?_ | apply bA | apply bN | apply bD) | exact HB.out))) : w.heap.size ≤ gb322)); have n5_ := ne_ hg BK321.out; have n6_ := en_ hg BK321.out; replace BK321 := n0_; replace HB := n1_; have BK322 := n2_; have GW322 := n3_; have GE322 := n4_; have NB321_322 := n5_; have NB322_321 := n6_; clear n0_ n1_ n2_ n3_ n4_ n5_ n6_; clear hb hbox hg; have hnb17 := NB321_322.out; have hnc17 := NB322_321.out; obtain ⟨hcz18_0, hcz18_1, hfz18_0, hfz18_1⟩ := bz2 BK321.out; obtain ⟨hcz19_0, hcz19_1, hfz19_0, hfz19_1⟩ := bz2 BK322.out))
  go_ret
  exact ⟨by first | rfl | (simp [errW_none, errW_some] <;> rfl) | (simp [*, errW_none, errW_some] <;> rfl), by repeat (first | (with_reducible first | exact bw HB.out | refine bset ?_ | apply bA | apply bN | apply bD) | exact HB.out)⟩
 rw [if_pos c3] at H
 have c3b0 : (a0_0 == a1_0) = true := beq_iff_eq.mpr c3
 have c3b1 : (a0_0 != a1_0) = false := bne_eq_false_iff_eq.mpr c3
 clear c3
 by_cases c4 : a0_1 = a1_1
 ·rw [if_pos c4] at H
  have c4b0 : (a0_1 == a1_1) = true := beq_iff_eq.mpr c4
  have c4b1 : (a0_1 != a1_1) = false := bne_eq_false_iff_eq.mpr c4
  clear c4
  obtain rfl := Option.some.inj H
  go_enter Try.func44, Try.ntmps44
  go_wp2_with (first | ((with_reducible refine gate_dst (N := 2) rfl ?_); refine box_event ?hg (N := 2) ?hd (cs := #[.int .i64 a0_0, .int .i64 a0_1]) (t := 62) ?hr ?_; (case hd => rfl); (case hg => rfl); (case hr => first | (go_simp; done) | (go_simp; rfl)); intro gb321 hg w5 hbox hb; have n0_ := Aside0.mk (below_step (bw HB.out) hb); have n1_ := Aside0.mk (hbox); have n2_ := ge_ hg HB.out; have n3_ := ge_ hg HB.out; replace HB := n0_; have BK321 := n1_; have GW321 := n2_; have GE321 := n3_; clear n0_ n1_ n2_ n3_; clear hb hbox hg) | ((with_reducible refine gate_dst (N := 3) rfl ?_); refine box_event ?hg (N := 3) ?hd (cs := #[.int .i64 a1_0, .int .i64 a1_1]) (t := 62) ?hr ?_; (case hd => rfl); (case hg => rfl); (case hr => first | (go_simp; done) | (go_simp; rfl)); intro gb322 hg w6 hbox hb; have n0_ := Aside0.mk (blk_below (bs BK321.out) hb); have n1_ := Aside0.mk (below_step (by repeat (first | (with_reducible first | exact bw HB.out | refine bset ?_ | apply bA | apply bN | apply bD) | exact HB.out)) hb); have n2_ := Aside0.mk (hbox); have n3_ := Aside0.mk ((by rw [hg]; exact (below_size (by repeat (first | (with_reducible first | exact bw HB.out | refine bset ?_ | apply bA | apply bN | apply bD) | exact HB.out))) : w.heap.size ≤ gb322)); have n4_ := Aside0.mk ((by rw [hg]; exact (below_size (by repeat (first | (with_reducible first | exact bw HB.out | refine bset ?_ | apply bA | apply bN | apply bD) | exact HB.out))) : w.heap.size ≤ gb322)); have n5_ := ne_ hg BK321.out; have n6_ := en_ hg BK321.out; replace BK321 := n0_; replace HB := n1_; have BK322 := n2_; have GW322 := n3_; have GE322 := n4_; have NB321_322 := n5_; have NB322_321 := n6_; clear n0_ n1_ n2_ n3_ n4_ n5_ n6_; clear hb hbox hg; have hnb7 := NB321_322.out; have hnc7 := NB322_321.out; obtain ⟨hcz8_0, hcz8_1, hfz8_0, hfz8_1⟩ := bz2 BK321.out; obtain ⟨hcz9_0, hcz9_1, hfz9_0, hfz9_1⟩ := bz2 BK322.out))
  go_ret
  exact ⟨by first | rfl | (simp [errW_none, errW_some] <;> rfl) | (simp [*, errW_none, errW_some] <;> rfl), by repeat (first | (with_reducible first | exact bw HB.out | refine bset ?_ | apply bA | apply bN | apply bD) | exact HB.out)⟩
 rw [if_neg c4] at H
 have c4b0 : (a0_1 == a1_1) = false := beq_eq_false_iff_ne.mpr c4
 have c4b1 : (a0_1 != a1_1) = true := bne_iff_ne.mpr c4
 obtain rfl := Option.some.inj H
 go_enter Try.func44, Try.ntmps44
 go_wp2_with (first | ((with_reducible refine gate_dst (N := 2) rfl ?_); refine box_event ?hg (N := 2) ?hd (cs := #[.int .i64 a0_0, .int .i64 a0_1]) (t := 62) ?hr ?_; (case hd => rfl); (case hg => rfl); (case hr => first | (go_simp; done) | (go_simp; rfl)); intro gb321 hg w10 hbox hb; have n0_ := Aside0.mk (below_step (bw HB.out) hb); have n1_ := Aside0.mk (hbox); have n2_ := ge_ hg HB.out; have n3_ := ge_ hg HB.out; replace HB := n0_; have BK321 := n1_; have GW321 := n2_; have GE321 := n3_; clear n0_ n1_ n2_ n3_; clear hb hbox hg) | ((with_reducible refine gate_dst (N := 3) rfl ?_); refine box_event ?hg (N := 3) ?hd (cs := #[.int .i64 a1_0, .int .i64 a1_1]) (t := 62) ?hr ?_; (case hd => rfl); (case hg => rfl); (case hr => first | (go_simp; done) | (go_simp; rfl)); intro gb322 hg w11 hbox hb; have n0_ := Aside0.mk (blk_below (bs BK321.out) hb); have n1_ := Aside0.mk (below_step (by repeat (first | (with_reducible first | exact bw HB.out | refine bset ?_ | apply bA | apply bN | apply bD) | exact HB.out)) hb); have n2_ := Aside0.mk (hbox); have n3_ := Aside0.mk ((by rw [hg]; exact (below_size (by repeat (first | (with_reducible first | exact bw HB.out | refine bset ?_ | apply bA | apply bN | apply bD) | exact HB.out))) : w.heap.size ≤ gb322)); have n4_ := Aside0.mk ((by rw [hg]; exact (below_size (by repeat (first | (with_reducible first | exact bw HB.out | refine bset ?_ | apply bA | apply bN | apply bD) | exact HB.out))) : w.heap.size ≤ gb322)); have n5_ := ne_ hg BK321.out; have n6_ := en_ hg BK321.out; replace BK321 := n0_; replace HB := n1_; have BK322 := n2_; have GW322 := n3_; have GE322 := n4_; have NB321_322 := n5_; have NB322_321 := n6_; clear n0_ n1_ n2_ n3_ n4_ n5_ n6_; clear hb hbox hg; have hnb12 := NB321_322.out; have hnc12 := NB322_321.out; obtain ⟨hcz13_0, hcz13_1, hfz13_0, hfz13_1⟩ := bz2 BK321.out; obtain ⟨hcz14_0, hcz14_1, hfz14_0, hfz14_1⟩ := bz2 BK322.out))
 go_ret
 exact ⟨by first | rfl | (simp [errW_none, errW_some] <;> rfl) | (simp [*, errW_none, errW_some] <;> rfl), by repeat (first | (with_reducible first | exact bw HB.out | refine bset ?_ | apply bA | apply bN | apply bD) | exact HB.out)⟩

/-! ### laws_eqOpS: function 35 -/
abbrev q35_0 : Array Bool := ⟨rl_ [10] false⟩
abbrev q35_7 : Array Bool := ⟨rl_ [7, 3] true⟩
abbrev q35_8 : Array Bool := ⟨rl_ [8, 2] true⟩
abbrev q35_9 : Array Bool := ⟨rl_ [9, 1] true⟩
def laws_eqOpS.l0 : Nat → List (S62) → List (S62) → Int → Option (Bool)
 | 0, _, _, _ => none
 | k + 1, x0, x1, x5 => if x5 < (x0.length : Int) then (if 0 ≤ x5 then (if x5 < (x1.length : Int) then ((laws_eqOp.f ((rd_T62 x0 x5).f0) ((rd_T62 x0 x5).f1) ((rd_T62 x1 x5).f0) ((rd_T62 x1 x5).f1)).bind fun t325 => (if t325 = true then (laws_eqOpS.l0 k x0 x1 (wrap64 (x5 + 1))) else (some false))) else (none)) else (none)) else (some true)
def laws_eqOpS.f (k : Nat) (l0 : List (S62)) (l1 : List (S62)) : Option (Bool) := if (l0.length : Int) = (l1.length : Int) then (laws_eqOpS.l0 k l0 l1 0) else (some false)
theorem laws_eqOpS.mono_l : ∀ k, (∀ y0 y1 y2, LeO (laws_eqOpS.l0 k y0 y1 y2) (laws_eqOpS.l0 (k + 1) y0 y1 y2))
 | 0 => fun _ _ _ r h => by simp [laws_eqOpS.l0] at h
 | k + 1 => by
  have ih0 := laws_eqOpS.mono_l k
  ·intro y0 y1 y2
   unfold laws_eqOpS.l0
   repeat' first
   | (with_reducible exact ih0 _ _ _)
   | (with_reducible exact LeO.refl _)
   | (with_reducible exact LeO.none _)
   | (with_reducible refine LeO.ite ?_ ?_)
   | (with_reducible refine LeO.bind ?_ (fun _ => ?_))
   | exact ih0 _ _ _
   | exact LeO.none _
   | refine LeO.ite ?_ ?_
   | refine LeO.bind ?_ (fun _ => ?_)
theorem laws_eqOpS.mono : ∀ a0 a1 k, LeO (laws_eqOpS.f k a0 a1) (laws_eqOpS.f (k + 1) a0 a1) := by
 intro a0 a1 k
 have ih0 := laws_eqOpS.mono_l k
 unfold laws_eqOpS.f
 repeat' first
   | (with_reducible exact ih0 _ _ _)
   | (with_reducible exact LeO.refl _)
   | (with_reducible exact LeO.none _)
   | (with_reducible refine LeO.ite ?_ ?_)
   | (with_reducible refine LeO.bind ?_ (fun _ => ?_))
   | exact ih0 _ _ _
   | exact LeO.none _
   | refine LeO.ite ?_ ?_
   | refine LeO.bind ?_ (fun _ => ?_)
def laws_eqOpS.T6 : Bool × List (List Nat × List Nat) := (true, [([], []), ([], []), ([0, 1], [0, 1]), ([2], [2]), ([], []), ([], []), ([4, 5], [4, 5]), ([6], [6]), ([3, 7], [3, 7]), ([8], [8])])
def laws_eqOpS.B6 : List Nat := [0, 0, 3, 7, 0, 0, 48, 112, 255, 511]
theorem laws_eqOpS.tab6 : rtab .any (opsOf Try.f35 6) = laws_eqOpS.T6 := by kernel_rfl
theorem laws_eqOpS.bits6 : waitsOk laws_eqOpS.T6.2 laws_eqOpS.B6 = true := by kernel_rfl
set_option maxHeartbeats 8000000 in
set_option maxRecDepth 100000 in
theorem laws_eqOpS.calls (k : Nat) (A0 : Option Addr) (c0 : Nat) (l0 : List (S62)) (A1 : Option Addr) (c1 : Nat) (l1 : List (S62)) (r : Bool) (w : World) (hr0 : Kd.C k62 w A0 l0.length l0) (hc0 : l0.length ≤ c0) (hr1 : Kd.C k62 w A1 l1.length l1) (hc1 : l1.length ≤ c1) (h : laws_eqOpS.f k l0 l1 = some r) :
  Calls Try.prog 35 #[.slice A0 l0.length c0, .slice A1 l1.length c1] w fun e w' => e = .returned (.bool r) ∧ Below w.heap.size w w' := by
 have hu62 := Try.underlying62
 have HR0 := Aside0.mk hr0
 have HC0 := Aside0.mk hc0
 clear hr0 hc0
 have HR1 := Aside0.mk hr1
 have HC1 := Aside0.mk hc1
 clear hr1 hc1
 have HB := Aside0.mk (Below.refl w.heap.size w)
 have H : (if (l0.length : Int) = (l1.length : Int) then (laws_eqOpS.l0 k l0 l1 0) else (some false)) = some r := h
 clear h
 by_cases c3 : (l0.length : Int) = (l1.length : Int)
 rotate_left
 ·rw [if_neg c3] at H
  have c3b0 : ((l0.length : Int) == (l1.length : Int)) = false := beq_eq_false_iff_ne.mpr c3
  have c3b1 : ((l0.length : Int) != (l1.length : Int)) = true := bne_iff_ne.mpr c3
  have c3b2 : (l0.length == l1.length) = false := by first | simpa using c3 | (simp at c3 ⊢; omega)
  obtain rfl := Option.some.inj H
  go_enter Try.func35, Try.ntmps35
  go_wp2
  go_ret
  exact ⟨by first | rfl | (simp [errW_none, errW_some] <;> rfl) | (simp [*, errW_none, errW_some] <;> rfl), bw HB.out⟩
 rw [if_pos c3] at H
 have c3b0 : ((l0.length : Int) == (l1.length : Int)) = true := beq_iff_eq.mpr c3
 have c3b1 : ((l0.length : Int) != (l1.length : Int)) = false := bne_eq_false_iff_eq.mpr c3
 have c3b2 : (l0.length == l1.length) = true := by first | simpa using c3 | (simp at c3 ⊢; omega)
 clear c3
 have H' := Aside0.mk H
 clear H
 go_enter Try.func35, Try.ntmps35
 go_wp2
 go_loopg [5] k (fun kq v5 w' => ∃ (x5_1 : Int), v5 = .int .i64 x5_1 ∧ Aside0 (laws_eqOpS.l0 kq l0 l1 x5_1 = some r) ∧ Aside0 (kq ≤ k) ∧ Aside0 (Below w.heap.size w w'))
 case atStart => exact ⟨(0), (by first | rfl | (simp; done) | (simp [*]; done)), H', ⟨Nat.le_refl _⟩, ⟨bw HB.out⟩⟩
 case round =>
  clear H'
  try clear c1
  try clear p2
  try clear c3
  try clear c3b0
  try clear c3b1
  try clear c3b2
  obtain ⟨x5_1, rfl, HA, HK1, HB⟩ := hrel
  cases gk with
  | zero => exact absurd HA.out (by simp [laws_eqOpS.l0])
  | succ k1 =>
   have H := HA.out
   clear HA
   simp only [laws_eqOpS.l0] at H
   by_cases c4 : x5_1 < (l0.length : Int)
   rotate_left
   ·rw [if_neg c4] at H
    have c4b0 : decide (x5_1 < (l0.length : Int)) = false := decide_eq_false c4
    clear c4
    obtain rfl := Option.some.inj H
    go_wp2
    go_ret
    exact ⟨by first | rfl | (simp [errW_none, errW_some] <;> rfl) | (simp [*, errW_none, errW_some] <;> rfl), bw HB.out⟩
   rw [if_pos c4] at H
   have c4b0 : decide (x5_1 < (l0.length : Int)) = true := decide_eq_true c4
   clear c4
   by_cases c5 : 0 ≤ x5_1
   rotate_left
   ·rw [if_neg c5] at H
    exact absurd H (by simp)
   rw [if_pos c5] at H
   have c5b0 : decide (0 ≤ x5_1) = true := decide_eq_true c5
   clear c5
   by_cases c6 : x5_1 < (l1.length : Int)
   rotate_left
   ·rw [if_neg c6] at H
    exact absurd H (by simp)
   rw [if_pos c6] at H
   have c6b0 : decide (x5_1 < (l1.length : Int)) = true := decide_eq_true c6
   clear c6
   replace H := Option.bind_eq_some_iff.mp H
   obtain ⟨t325, A70, H⟩ := H
   replace H : (if t325 = true then (laws_eqOpS.l0 k1 l0 l1 (wrap64 (x5_1 + 1))) else (some false)) = some r := H
   have A7 := Aside0.mk A70
   clear A70
   by_cases c8 : t325 = true
   rotate_left
   ·replace c8 := Bool.eq_false_iff.mpr c8
    subst c8
    have H1 : (some false) = some r := by rw [if_neg (show ¬ (false = true) by decide)] at H; exact H
    clear H
    have H := H1
    clear H1
    obtain rfl := Option.some.inj H
    try go_wp2
    have n0_ := Aside0.mk (below_drew1 HB.out)
    replace HB := n0_
    clear n0_
    have p323 : 0 ≤ (x5_1 : Int) := of_decide_eq_true (by first | (with_reducible assumption) | assumption)
    have q323 : x5_1 < (l0.length : Int) := of_decide_eq_true (by first | (with_reducible assumption) | assumption)
    obtain ⟨ad323, e323, hx323_0, hx323_1⟩ := at_T62 HR0.out x5_1 p323 q323
    have hw323_1 := hx323_1
    have hw323_0 := hx323_0
    cases e323
    replace hx323_0 := (HB.out.cell (World.block_lt_of_cell? w _ hx323_0)).trans hx323_0
    replace hx323_1 := (HB.out.cell (World.block_lt_of_cell? w _ hx323_1)).trans hx323_1
    replace p323 := eq_true p323
    replace q323 := eq_true q323
    have p324 : 0 ≤ (x5_1 : Int) := of_decide_eq_true (by first | (with_reducible assumption) | assumption)
    have q324 : x5_1 < (l1.length : Int) := of_decide_eq_true (by first | (with_reducible assumption) | assumption)
    obtain ⟨ad324, e324, hx324_0, hx324_1⟩ := at_T62 HR1.out x5_1 p324 q324
    have hw324_1 := hx324_1
    have hw324_0 := hx324_0
    cases e324
    replace hx324_0 := (HB.out.cell (World.block_lt_of_cell? w _ hx324_0)).trans hx324_0
    replace hx324_1 := (HB.out.cell (World.block_lt_of_cell? w _ hx324_1)).trans hx324_1
    replace p324 := eq_true p324
    replace q324 := eq_true q324
    refine start_ (n := 10) (S := fun w' => w'.cell? (ad323.add ((x5_1).toNat * 2)) = some (.int .i64 ((rd_T62 l0 x5_1).f0)) ∧ w'.cell? ⟨(ad323.add ((x5_1).toNat * 2)).block, (ad323.add ((x5_1).toNat * 2)).off + 1, none⟩ = some (.int .i64 ((rd_T62 l0 x5_1).f1)) ∧ w'.cell? (ad324.add ((x5_1).toNat * 2)) = some (.int .i64 ((rd_T62 l1 x5_1).f0)) ∧ w'.cell? ⟨(ad324.add ((x5_1).toNat * 2)).block, (ad324.add ((x5_1).toNat * 2)).off + 1, none⟩ = some (.int .i64 ((rd_T62 l1 x5_1).f1))) (ds := []) q35_0 (by kernel_rfl) rfl rfl ⟨(bcl_ HB.out hw323_0 :), (bcl_ HB.out hw323_1 :), (bcl_ HB.out hw324_0 :), (bcl_ HB.out hw324_1 :)⟩ (fun hHeld => ?_); refine with_tabW laws_eqOpS.tab6 laws_eqOpS.bits6 (fun HT_ HW_ => ?_)
    generalize wr.drew = w11 at HB hx323_0 hx323_1 hx324_0 hx324_1 hHeld ⊢
    refine pup_ (i := 0) (N := some 17) HT_ rfl rfl (by kernel_rfl) (fun _ _ _ h => h) (Or.inl ⟨by rfl, by intro w'; go_simp; with_reducible rfl⟩) (by simp only [aq_]; rfl) ?_
    refine pup_ (i := 1) (N := some 18) HT_ rfl rfl (by kernel_rfl) (fun _ _ _ h => h) (Or.inl ⟨by rfl, by intro w'; go_simp; with_reducible rfl⟩) (by simp only [aq_]; rfl) ?_
    refine pup_ (i := 2) (N := some 19) HT_ rfl rfl (by kernel_rfl) (fun _ _ _ h => h) (Or.inl ⟨by rfl, by intro w'; go_simp; with_reducible rfl⟩) (by simp only [aq_]; rfl) ?_
    refine pup_ (i := 4) (N := some 21) HT_ rfl rfl (by kernel_rfl) (fun _ _ _ h => h) (Or.inl ⟨by rfl, by intro w'; go_simp; with_reducible rfl⟩) (by simp only [aq_]; rfl) ?_
    refine pup_ (i := 5) (N := some 22) HT_ rfl rfl (by kernel_rfl) (fun _ _ _ h => h) (Or.inl ⟨by rfl, by intro w'; go_simp; with_reducible rfl⟩) (by simp only [aq_]; rfl) ?_
    refine pup_ (i := 6) (N := some 23) HT_ rfl rfl (by kernel_rfl) (fun _ _ _ h => h) (Or.inl ⟨by rfl, by intro w'; go_simp; with_reducible rfl⟩) (by simp only [aq_]; rfl) ?_
    refine take_ (i := 3) (N := some 20) (v := ?_) (a' := ?_) q35_7 rfl rfl (take_ofW HT_.out HW_.out (by kernel_rfl)) (fun _ _ _ h => h) (Or.inl ⟨by rfl, ?_⟩) hHeld ?_ ?_
    rotate_left
    ·rintro w' ⟨s0, s1, s2, s3⟩
     go_simp
     with_reducible rfl
    rotate_left
    ·simp only [aq_]
     rfl
    refine take_ (i := 7) (N := some 24) (v := ?_) (a' := ?_) q35_8 rfl rfl (take_ofW HT_.out HW_.out (by kernel_rfl)) (fun _ _ _ h => h) (Or.inl ⟨by rfl, ?_⟩) hHeld ?_ ?_
    rotate_left
    ·rintro w' ⟨s0, s1, s2, s3⟩
     go_simp
     with_reducible rfl
    rotate_left
    ·simp only [aq_]
     rfl
    refine one_ (i := 8) (N := some 25) q35_9 rfl rfl (one_of HT_.out (by kernel_rfl)) (by decide) (fun K hK => ?_)
    refine goes_ Try.func44 (by kernel_rfl) rfl #[.agg #[.int .i64 ((rd_T62 l0 x5_1).f0), .int .i64 ((rd_T62 l0 x5_1).f1)], .agg #[.int .i64 ((rd_T62 l1 x5_1).f0), .int .i64 ((rd_T62 l1 x5_1).f1)]] (by rfl) rfl rfl (by (try simp only [mA_]); first | done | rfl | (simp only [List.length_drop, List.length_take]; rfl)) ?_
    with_reducible refine (laws_eqOp.calls ((rd_T62 l0 x5_1).f0) ((rd_T62 l0 x5_1).f1) ((rd_T62 l1 x5_1).f0) ((rd_T62 l1 x5_1).f1) false _ A7.out).mono ?_
    rintro e w12 ⟨rfl, hb⟩
    refine ⟨_, rfl, ?_⟩
    have n0_ := Aside0.mk (below_step (bw HB.out) hb)
    replace HB := n0_
    clear n0_
    (try clear hb)
    (try clear hb2)
    (try clear hk)
    (try clear hi)
    refine hK.out _ _ ⟨(bcl_ HB.out hw323_0 :), (bcl_ HB.out hw323_1 :), (bcl_ HB.out hw324_0 :), (bcl_ HB.out hw324_1 :)⟩ (fun hHeld => ?_)
    clear hK K
    refine norm_ (a' := ?_) ?_ ?_
    rotate_left
    ·show Act.put _ (some 25) _ = _
     simp only [aq_]
     rfl
    refine pup_ (i := 9) (N := some 26) HT_ rfl rfl (by kernel_rfl) (fun _ _ _ h => h) (Or.inl ⟨by rfl, by intro w'; go_simp; with_reducible rfl⟩) (by simp only [aq_]; rfl) ?_
    refine done_ (done_of HT_.out (by kernel_rfl)) ?_
    try go_wp2
    go_ret
    exact ⟨by first | rfl | (simp [errW_none, errW_some] <;> rfl) | (simp [*, errW_none, errW_some] <;> rfl), bw HB.out⟩
   subst c8
   have H1 : (laws_eqOpS.l0 k1 l0 l1 (wrap64 (x5_1 + 1))) = some r := by rw [if_pos rfl] at H; exact H
   clear H
   have H := H1
   clear H1
   have H' := Aside0.mk H
   clear H
   try go_wp2
   have n0_ := Aside0.mk (below_drew1 HB.out)
   replace HB := n0_
   clear n0_
   have p323 : 0 ≤ (x5_1 : Int) := of_decide_eq_true (by first | (with_reducible assumption) | assumption)
   have q323 : x5_1 < (l0.length : Int) := of_decide_eq_true (by first | (with_reducible assumption) | assumption)
   obtain ⟨ad323, e323, hx323_0, hx323_1⟩ := at_T62 HR0.out x5_1 p323 q323
   have hw323_1 := hx323_1
   have hw323_0 := hx323_0
   cases e323
   replace hx323_0 := (HB.out.cell (World.block_lt_of_cell? w _ hx323_0)).trans hx323_0
   replace hx323_1 := (HB.out.cell (World.block_lt_of_cell? w _ hx323_1)).trans hx323_1
   replace p323 := eq_true p323
   replace q323 := eq_true q323
   have p324 : 0 ≤ (x5_1 : Int) := of_decide_eq_true (by first | (with_reducible assumption) | assumption)
   have q324 : x5_1 < (l1.length : Int) := of_decide_eq_true (by first | (with_reducible assumption) | assumption)
   obtain ⟨ad324, e324, hx324_0, hx324_1⟩ := at_T62 HR1.out x5_1 p324 q324
   have hw324_1 := hx324_1
   have hw324_0 := hx324_0
   cases e324
   replace hx324_0 := (HB.out.cell (World.block_lt_of_cell? w _ hx324_0)).trans hx324_0
   replace hx324_1 := (HB.out.cell (World.block_lt_of_cell? w _ hx324_1)).trans hx324_1
   replace p324 := eq_true p324
   replace q324 := eq_true q324
   refine start_ (n := 10) (S := fun w' => w'.cell? (ad323.add ((x5_1).toNat * 2)) = some (.int .i64 ((rd_T62 l0 x5_1).f0)) ∧ w'.cell? ⟨(ad323.add ((x5_1).toNat * 2)).block, (ad323.add ((x5_1).toNat * 2)).off + 1, none⟩ = some (.int .i64 ((rd_T62 l0 x5_1).f1)) ∧ w'.cell? (ad324.add ((x5_1).toNat * 2)) = some (.int .i64 ((rd_T62 l1 x5_1).f0)) ∧ w'.cell? ⟨(ad324.add ((x5_1).toNat * 2)).block, (ad324.add ((x5_1).toNat * 2)).off + 1, none⟩ = some (.int .i64 ((rd_T62 l1 x5_1).f1))) (ds := []) q35_0 (by kernel_rfl) rfl rfl ⟨(bcl_ HB.out hw323_0 :), (bcl_ HB.out hw323_1 :), (bcl_ HB.out hw324_0 :), (bcl_ HB.out hw324_1 :)⟩ (fun hHeld => ?_); refine with_tabW laws_eqOpS.tab6 laws_eqOpS.bits6 (fun HT_ HW_ => ?_)
   generalize wr.drew = w9 at HB hx323_0 hx323_1 hx324_0 hx324_1 hHeld ⊢
   refine pup_ (i := 0) (N := some 17) HT_ rfl rfl (by kernel_rfl) (fun _ _ _ h => h) (Or.inl ⟨by rfl, by intro w'; go_simp; with_reducible rfl⟩) (by simp only [aq_]; rfl) ?_
   refine pup_ (i := 1) (N := some 18) HT_ rfl rfl (by kernel_rfl) (fun _ _ _ h => h) (Or.inl ⟨by rfl, by intro w'; go_simp; with_reducible rfl⟩) (by simp only [aq_]; rfl) ?_
   refine pup_ (i := 2) (N := some 19) HT_ rfl rfl (by kernel_rfl) (fun _ _ _ h => h) (Or.inl ⟨by rfl, by intro w'; go_simp; with_reducible rfl⟩) (by simp only [aq_]; rfl) ?_
   refine pup_ (i := 4) (N := some 21) HT_ rfl rfl (by kernel_rfl) (fun _ _ _ h => h) (Or.inl ⟨by rfl, by intro w'; go_simp; with_reducible rfl⟩) (by simp only [aq_]; rfl) ?_
   refine pup_ (i := 5) (N := some 22) HT_ rfl rfl (by kernel_rfl) (fun _ _ _ h => h) (Or.inl ⟨by rfl, by intro w'; go_simp; with_reducible rfl⟩) (by simp only [aq_]; rfl) ?_
   refine pup_ (i := 6) (N := some 23) HT_ rfl rfl (by kernel_rfl) (fun _ _ _ h => h) (Or.inl ⟨by rfl, by intro w'; go_simp; with_reducible rfl⟩) (by simp only [aq_]; rfl) ?_
   refine take_ (i := 3) (N := some 20) (v := ?_) (a' := ?_) q35_7 rfl rfl (take_ofW HT_.out HW_.out (by kernel_rfl)) (fun _ _ _ h => h) (Or.inl ⟨by rfl, ?_⟩) hHeld ?_ ?_
   rotate_left
   ·rintro w' ⟨s0, s1, s2, s3⟩
    go_simp
    with_reducible rfl
   rotate_left
   ·simp only [aq_]
    rfl
   refine take_ (i := 7) (N := some 24) (v := ?_) (a' := ?_) q35_8 rfl rfl (take_ofW HT_.out HW_.out (by kernel_rfl)) (fun _ _ _ h => h) (Or.inl ⟨by rfl, ?_⟩) hHeld ?_ ?_
   rotate_left
   ·rintro w' ⟨s0, s1, s2, s3⟩
    go_simp
    with_reducible rfl
   rotate_left
   ·simp only [aq_]
    rfl
   refine one_ (i := 8) (N := some 25) q35_9 rfl rfl (one_of HT_.out (by kernel_rfl)) (by decide) (fun K hK => ?_)
   refine goes_ Try.func44 (by kernel_rfl) rfl #[.agg #[.int .i64 ((rd_T62 l0 x5_1).f0), .int .i64 ((rd_T62 l0 x5_1).f1)], .agg #[.int .i64 ((rd_T62 l1 x5_1).f0), .int .i64 ((rd_T62 l1 x5_1).f1)]] (by rfl) rfl rfl (by (try simp only [mA_]); first | done | rfl | (simp only [List.length_drop, List.length_take]; rfl)) ?_
   with_reducible refine (laws_eqOp.calls ((rd_T62 l0 x5_1).f0) ((rd_T62 l0 x5_1).f1) ((rd_T62 l1 x5_1).f0) ((rd_T62 l1 x5_1).f1) true _ A7.out).mono ?_
   rintro e w10 ⟨rfl, hb⟩
   refine ⟨_, rfl, ?_⟩
   have n0_ := Aside0.mk (below_step (bw HB.out) hb)
   replace HB := n0_
   clear n0_
   (try clear hb)
   (try clear hb2)
   (try clear hk)
   (try clear hi)
   refine hK.out _ _ ⟨(bcl_ HB.out hw323_0 :), (bcl_ HB.out hw323_1 :), (bcl_ HB.out hw324_0 :), (bcl_ HB.out hw324_1 :)⟩ (fun hHeld => ?_)
   clear hK K
   refine norm_ (a' := ?_) ?_ ?_
   rotate_left
   ·show Act.put _ (some 25) _ = _
    simp only [aq_]
    rfl
   refine pup_ (i := 9) (N := some 26) HT_ rfl rfl (by kernel_rfl) (fun _ _ _ h => h) (Or.inl ⟨by rfl, by intro w'; go_simp; with_reducible rfl⟩) (by simp only [aq_]; rfl) ?_
   refine done_ (done_of HT_.out (by kernel_rfl)) ?_
   try go_wp2
   go_roundg k1
   case measure => have := HK1.out; omega
   case rel => exact ⟨(wrap64 (x5_1 + 1)), (by first | rfl | (simp; done) | (simp [*]; done)), H', ⟨by have := HK1.out; omega⟩, ⟨bw HB.out⟩⟩

/-! ### laws_eqOpSS: function 20 -/
abbrev q20_0 : Array Bool := ⟨rl_ [10] false⟩
abbrev q20_7 : Array Bool := ⟨rl_ [7, 3] true⟩
abbrev q20_8 : Array Bool := ⟨rl_ [8, 2] true⟩
abbrev q20_9 : Array Bool := ⟨rl_ [9, 1] true⟩
def laws_eqOpSS.l0 : Nat → List (List (S62)) → List (List (S62)) → Int → Option (Bool)
 | 0, _, _, _ => none
 | k + 1, x0, x1, x5 => if x5 < (x0.length : Int) then (if 0 ≤ x5 then (if x5 < (x1.length : Int) then ((laws_eqOpS.f k (rd_L5 x0 x5) (rd_L5 x1 x5)).bind fun t328 => (if t328 = true then (laws_eqOpSS.l0 k x0 x1 (wrap64 (x5 + 1))) else (some false))) else (none)) else (none)) else (some true)
def laws_eqOpSS.f (k : Nat) (l0 : List (List (S62))) (l1 : List (List (S62))) : Option (Bool) := if (l0.length : Int) = (l1.length : Int) then (laws_eqOpSS.l0 k l0 l1 0) else (some false)
theorem laws_eqOpSS.mono_l : ∀ k, (∀ y0 y1 y2, LeO (laws_eqOpSS.l0 k y0 y1 y2) (laws_eqOpSS.l0 (k + 1) y0 y1 y2))
 | 0 => fun _ _ _ r h => by simp [laws_eqOpSS.l0] at h
 | k + 1 => by
  have ih0 := laws_eqOpSS.mono_l k
  ·intro y0 y1 y2
   unfold laws_eqOpSS.l0
   repeat' first
   | (with_reducible exact ih0 _ _ _)
   | (with_reducible exact laws_eqOpS.mono _ _ _)
   | (with_reducible exact LeO.refl _)
   | (with_reducible exact LeO.none _)
   | (with_reducible refine LeO.ite ?_ ?_)
   | (with_reducible refine LeO.bind ?_ (fun _ => ?_))
   | exact ih0 _ _ _
   | exact laws_eqOpS.mono _ _ _
   | exact LeO.none _
   | refine LeO.ite ?_ ?_
   | refine LeO.bind ?_ (fun _ => ?_)
theorem laws_eqOpSS.mono : ∀ a0 a1 k, LeO (laws_eqOpSS.f k a0 a1) (laws_eqOpSS.f (k + 1) a0 a1) := by
 intro a0 a1 k
 have ih0 := laws_eqOpSS.mono_l k
 unfold laws_eqOpSS.f
 repeat' first
   | (with_reducible exact ih0 _ _ _)
   | (with_reducible exact laws_eqOpS.mono _ _ _)
   | (with_reducible exact LeO.refl _)
   | (with_reducible exact LeO.none _)
   | (with_reducible refine LeO.ite ?_ ?_)
   | (with_reducible refine LeO.bind ?_ (fun _ => ?_))
   | exact ih0 _ _ _
   | exact laws_eqOpS.mono _ _ _
   | exact LeO.none _
   | refine LeO.ite ?_ ?_
   | refine LeO.bind ?_ (fun _ => ?_)
def laws_eqOpSS.T6 : Bool × List (List Nat × List Nat) := (true, [([], []), ([], []), ([0, 1], [0, 1]), ([2], [2]), ([], []), ([], []), ([4, 5], [4, 5]), ([6], [6]), ([3, 7], [3, 7]), ([8], [8])])
def laws_eqOpSS.B6 : List Nat := [0, 0, 3, 7, 0, 0, 48, 112, 255, 511]
theorem laws_eqOpSS.tab6 : rtab .any (opsOf Try.f20 6) = laws_eqOpSS.T6 := by kernel_rfl
theorem laws_eqOpSS.bits6 : waitsOk laws_eqOpSS.T6.2 laws_eqOpSS.B6 = true := by kernel_rfl
set_option maxHeartbeats 8000000 in
set_option maxRecDepth 100000 in
theorem laws_eqOpSS.calls (k : Nat) (A0 : Option Addr) (c0 : Nat) (l0 : List (List (S62))) (A1 : Option Addr) (c1 : Nat) (l1 : List (List (S62))) (r : Bool) (w : World) (hr0 : Kd.C (Kd.slice 62 k62) w A0 l0.length l0) (hc0 : l0.length ≤ c0) (hr1 : Kd.C (Kd.slice 62 k62) w A1 l1.length l1) (hc1 : l1.length ≤ c1) (h : laws_eqOpSS.f k l0 l1 = some r) :
  Calls Try.prog 20 #[.slice A0 l0.length c0, .slice A1 l1.length c1] w fun e w' => e = .returned (.bool r) ∧ Below w.heap.size w w' := by
 have HR0 := Aside0.mk hr0
 have HC0 := Aside0.mk hc0
 clear hr0 hc0
 have HR1 := Aside0.mk hr1
 have HC1 := Aside0.mk hc1
 clear hr1 hc1
 have HB := Aside0.mk (Below.refl w.heap.size w)
 have H : (if (l0.length : Int) = (l1.length : Int) then (laws_eqOpSS.l0 k l0 l1 0) else (some false)) = some r := h
 clear h
 by_cases c3 : (l0.length : Int) = (l1.length : Int)
 rotate_left
 ·rw [if_neg c3] at H
  have c3b0 : ((l0.length : Int) == (l1.length : Int)) = false := beq_eq_false_iff_ne.mpr c3
  have c3b1 : ((l0.length : Int) != (l1.length : Int)) = true := bne_iff_ne.mpr c3
  have c3b2 : (l0.length == l1.length) = false := by first | simpa using c3 | (simp at c3 ⊢; omega)
  obtain rfl := Option.some.inj H
  go_enter Try.func20, Try.ntmps20
  go_wp2
  go_ret
  exact ⟨by first | rfl | (simp [errW_none, errW_some] <;> rfl) | (simp [*, errW_none, errW_some] <;> rfl), bw HB.out⟩
 rw [if_pos c3] at H
 have c3b0 : ((l0.length : Int) == (l1.length : Int)) = true := beq_iff_eq.mpr c3
 have c3b1 : ((l0.length : Int) != (l1.length : Int)) = false := bne_eq_false_iff_eq.mpr c3
 have c3b2 : (l0.length == l1.length) = true := by first | simpa using c3 | (simp at c3 ⊢; omega)
 clear c3
 have H' := Aside0.mk H
 clear H
 go_enter Try.func20, Try.ntmps20
 go_wp2
 go_loopg [5] k (fun kq v5 w' => ∃ (x5_1 : Int), v5 = .int .i64 x5_1 ∧ Aside0 (laws_eqOpSS.l0 kq l0 l1 x5_1 = some r) ∧ Aside0 (kq ≤ k) ∧ Aside0 (Below w.heap.size w w'))
 case atStart => exact ⟨(0), (by first | rfl | (simp; done) | (simp [*]; done)), H', ⟨Nat.le_refl _⟩, ⟨bw HB.out⟩⟩
 case round =>
  clear H'
  try clear c1
  try clear c2
  try clear p2
  try clear c3
  try clear c3b0
  try clear c3b1
  try clear c3b2
  obtain ⟨x5_1, rfl, HA, HK1, HB⟩ := hrel
  cases gk with
  | zero => exact absurd HA.out (by simp [laws_eqOpSS.l0])
  | succ k1 =>
   have H := HA.out
   clear HA
   simp only [laws_eqOpSS.l0] at H
   by_cases c4 : x5_1 < (l0.length : Int)
   rotate_left
   ·rw [if_neg c4] at H
    have c4b0 : decide (x5_1 < (l0.length : Int)) = false := decide_eq_false c4
    clear c4
    obtain rfl := Option.some.inj H
    go_wp2
    go_ret
    exact ⟨by first | rfl | (simp [errW_none, errW_some] <;> rfl) | (simp [*, errW_none, errW_some] <;> rfl), bw HB.out⟩
   rw [if_pos c4] at H
   have c4b0 : decide (x5_1 < (l0.length : Int)) = true := decide_eq_true c4
   clear c4
   by_cases c5 : 0 ≤ x5_1
   rotate_left
   ·rw [if_neg c5] at H
    exact absurd H (by simp)
   rw [if_pos c5] at H
   have c5b0 : decide (0 ≤ x5_1) = true := decide_eq_true c5
   clear c5
   by_cases c6 : x5_1 < (l1.length : Int)
   rotate_left
   ·rw [if_neg c6] at H
    exact absurd H (by simp)
   rw [if_pos c6] at H
   have c6b0 : decide (x5_1 < (l1.length : Int)) = true := decide_eq_true c6
   clear c6
   replace H := Option.bind_eq_some_iff.mp H
   obtain ⟨t328, A70, H⟩ := H
   replace H : (if t328 = true then (laws_eqOpSS.l0 k1 l0 l1 (wrap64 (x5_1 + 1))) else (some false)) = some r := H
   have A7 := Aside0.mk A70
   clear A70
   by_cases c8 : t328 = true
   rotate_left
   ·replace c8 := Bool.eq_false_iff.mpr c8
    subst c8
    have H1 : (some false) = some r := by rw [if_neg (show ¬ (false = true) by decide)] at H; exact H
    clear H
    have H := H1
    clear H1
    obtain rfl := Option.some.inj H
    try go_wp2
    have n0_ := Aside0.mk (below_drew1 HB.out)
    replace HB := n0_
    clear n0_
    have p326 : 0 ≤ (x5_1 : Int) := of_decide_eq_true (by first | (with_reducible assumption) | assumption)
    have q326 : x5_1 < (l0.length : Int) := of_decide_eq_true (by first | (with_reducible assumption) | assumption)
    obtain ⟨ad326, A326_0, c326_0, e326, hx326_0, hl326_0, hi326_0⟩ := at_L5 HR0.out x5_1 p326 q326
    have hw326_0 := hx326_0
    cases e326
    replace hx326_0 := (HB.out.cell (World.block_lt_of_cell? w _ hx326_0)).trans hx326_0
    have HR326_0 := Aside0.mk hi326_0
    have HC326_0 := Aside0.mk hl326_0
    clear hi326_0 hl326_0
    replace p326 := eq_true p326
    replace q326 := eq_true q326
    have p327 : 0 ≤ (x5_1 : Int) := of_decide_eq_true (by first | (with_reducible assumption) | assumption)
    have q327 : x5_1 < (l1.length : Int) := of_decide_eq_true (by first | (with_reducible assumption) | assumption)
    obtain ⟨ad327, A327_0, c327_0, e327, hx327_0, hl327_0, hi327_0⟩ := at_L5 HR1.out x5_1 p327 q327
    have hw327_0 := hx327_0
    cases e327
    replace hx327_0 := (HB.out.cell (World.block_lt_of_cell? w _ hx327_0)).trans hx327_0
    have HR327_0 := Aside0.mk hi327_0
    have HC327_0 := Aside0.mk hl327_0
    clear hi327_0 hl327_0
    replace p327 := eq_true p327
    replace q327 := eq_true q327
    refine start_ (n := 10) (S := fun w' => w'.cell? (ad326.add (x5_1).toNat) = some (.slice A326_0 (rd_L5 l0 x5_1).length c326_0) ∧ w'.cell? (ad327.add (x5_1).toNat) = some (.slice A327_0 (rd_L5 l1 x5_1).length c327_0)) (ds := []) q20_0 (by kernel_rfl) rfl rfl ⟨(bcl_ HB.out hw326_0 :), (bcl_ HB.out hw327_0 :)⟩ (fun hHeld => ?_); refine with_tabW laws_eqOpSS.tab6 laws_eqOpSS.bits6 (fun HT_ HW_ => ?_)
    generalize wr.drew = w11 at HB HR326_0 HR327_0 hx326_0 hx327_0 hHeld ⊢
    refine pup_ (i := 0) (N := some 17) HT_ rfl rfl (by kernel_rfl) (fun _ _ _ h => h) (Or.inl ⟨by rfl, by intro w'; go_simp; with_reducible rfl⟩) (by simp only [aq_]; rfl) ?_
    refine pup_ (i := 1) (N := some 18) HT_ rfl rfl (by kernel_rfl) (fun _ _ _ h => h) (Or.inl ⟨by rfl, by intro w'; go_simp; with_reducible rfl⟩) (by simp only [aq_]; rfl) ?_
    refine pup_ (i := 2) (N := some 19) HT_ rfl rfl (by kernel_rfl) (fun _ _ _ h => h) (Or.inl ⟨by rfl, by intro w'; go_simp; with_reducible rfl⟩) (by simp only [aq_]; rfl) ?_
    refine pup_ (i := 4) (N := some 21) HT_ rfl rfl (by kernel_rfl) (fun _ _ _ h => h) (Or.inl ⟨by rfl, by intro w'; go_simp; with_reducible rfl⟩) (by simp only [aq_]; rfl) ?_
    refine pup_ (i := 5) (N := some 22) HT_ rfl rfl (by kernel_rfl) (fun _ _ _ h => h) (Or.inl ⟨by rfl, by intro w'; go_simp; with_reducible rfl⟩) (by simp only [aq_]; rfl) ?_
    refine pup_ (i := 6) (N := some 23) HT_ rfl rfl (by kernel_rfl) (fun _ _ _ h => h) (Or.inl ⟨by rfl, by intro w'; go_simp; with_reducible rfl⟩) (by simp only [aq_]; rfl) ?_
    refine take_ (i := 3) (N := some 20) (v := ?_) (a' := ?_) q20_7 rfl rfl (take_ofW HT_.out HW_.out (by kernel_rfl)) (fun _ _ _ h => h) (Or.inl ⟨by rfl, ?_⟩) hHeld ?_ ?_
    rotate_left
    ·rintro w' ⟨s0, s1⟩
     go_simp
     with_reducible rfl
    rotate_left
    ·simp only [aq_]
     rfl
    refine take_ (i := 7) (N := some 24) (v := ?_) (a' := ?_) q20_8 rfl rfl (take_ofW HT_.out HW_.out (by kernel_rfl)) (fun _ _ _ h => h) (Or.inl ⟨by rfl, ?_⟩) hHeld ?_ ?_
    rotate_left
    ·rintro w' ⟨s0, s1⟩
     go_simp
     with_reducible rfl
    rotate_left
    ·simp only [aq_]
     rfl
    refine one_ (i := 8) (N := some 25) q20_9 rfl rfl (one_of HT_.out (by kernel_rfl)) (by decide) (fun K hK => ?_)
    refine goes_ Try.func35 (by kernel_rfl) rfl #[.slice A326_0 (rd_L5 l0 x5_1).length c326_0, .slice A327_0 (rd_L5 l1 x5_1).length c327_0] (by rfl) rfl rfl (by (try simp only [mA_]); first | done | rfl | (simp only [List.length_drop, List.length_take]; rfl)) ?_
    with_reducible refine (laws_eqOpS.calls k1 _ _ (rd_L5 l0 x5_1) _ _ (rd_L5 l1 x5_1) false _ ?side1 ?side2 ?side3 ?side4 A7.out).mono ?_
    (case side1 => first | exact bC HR326_0.out HB.out | exact Kd.C_below HR326_0.out HB.out)
    (case side2 => exact HC326_0.out)
    (case side3 => first | exact bC HR327_0.out HB.out | exact Kd.C_below HR327_0.out HB.out)
    (case side4 => exact HC327_0.out)
    rintro e w12 ⟨rfl, hb⟩
    refine ⟨_, rfl, ?_⟩
    have n0_ := Aside0.mk (below_step (bw HB.out) hb)
    replace HB := n0_
    clear n0_
    (try clear hb)
    (try clear hb2)
    (try clear hk)
    (try clear hi)
    refine hK.out _ _ ⟨(bcl_ HB.out hw326_0 :), (bcl_ HB.out hw327_0 :)⟩ (fun hHeld => ?_)
    clear hK K
    refine norm_ (a' := ?_) ?_ ?_
    rotate_left
    ·show Act.put _ (some 25) _ = _
     simp only [aq_]
     rfl
    refine pup_ (i := 9) (N := some 26) HT_ rfl rfl (by kernel_rfl) (fun _ _ _ h => h) (Or.inl ⟨by rfl, by intro w'; go_simp; with_reducible rfl⟩) (by simp only [aq_]; rfl) ?_
    refine done_ (done_of HT_.out (by kernel_rfl)) ?_
    try go_wp2
    go_ret
    exact ⟨by first | rfl | (simp [errW_none, errW_some] <;> rfl) | (simp [*, errW_none, errW_some] <;> rfl), bw HB.out⟩
   subst c8
   have H1 : (laws_eqOpSS.l0 k1 l0 l1 (wrap64 (x5_1 + 1))) = some r := by rw [if_pos rfl] at H; exact H
   clear H
   have H := H1
   clear H1
   have H' := Aside0.mk H
   clear H
   try go_wp2
   have n0_ := Aside0.mk (below_drew1 HB.out)
   replace HB := n0_
   clear n0_
   have p326 : 0 ≤ (x5_1 : Int) := of_decide_eq_true (by first | (with_reducible assumption) | assumption)
   have q326 : x5_1 < (l0.length : Int) := of_decide_eq_true (by first | (with_reducible assumption) | assumption)
   obtain ⟨ad326, A326_0, c326_0, e326, hx326_0, hl326_0, hi326_0⟩ := at_L5 HR0.out x5_1 p326 q326
   have hw326_0 := hx326_0
   cases e326
   replace hx326_0 := (HB.out.cell (World.block_lt_of_cell? w _ hx326_0)).trans hx326_0
   have HR326_0 := Aside0.mk hi326_0
   have HC326_0 := Aside0.mk hl326_0
   clear hi326_0 hl326_0
   replace p326 := eq_true p326
   replace q326 := eq_true q326
   have p327 : 0 ≤ (x5_1 : Int) := of_decide_eq_true (by first | (with_reducible assumption) | assumption)
   have q327 : x5_1 < (l1.length : Int) := of_decide_eq_true (by first | (with_reducible assumption) | assumption)
   obtain ⟨ad327, A327_0, c327_0, e327, hx327_0, hl327_0, hi327_0⟩ := at_L5 HR1.out x5_1 p327 q327
   have hw327_0 := hx327_0
   cases e327
   replace hx327_0 := (HB.out.cell (World.block_lt_of_cell? w _ hx327_0)).trans hx327_0
   have HR327_0 := Aside0.mk hi327_0
   have HC327_0 := Aside0.mk hl327_0
   clear hi327_0 hl327_0
   replace p327 := eq_true p327
   replace q327 := eq_true q327
   refine start_ (n := 10) (S := fun w' => w'.cell? (ad326.add (x5_1).toNat) = some (.slice A326_0 (rd_L5 l0 x5_1).length c326_0) ∧ w'.cell? (ad327.add (x5_1).toNat) = some (.slice A327_0 (rd_L5 l1 x5_1).length c327_0)) (ds := []) q20_0 (by kernel_rfl) rfl rfl ⟨(bcl_ HB.out hw326_0 :), (bcl_ HB.out hw327_0 :)⟩ (fun hHeld => ?_); refine with_tabW laws_eqOpSS.tab6 laws_eqOpSS.bits6 (fun HT_ HW_ => ?_)
   generalize wr.drew = w9 at HB HR326_0 HR327_0 hx326_0 hx327_0 hHeld ⊢
   refine pup_ (i := 0) (N := some 17) HT_ rfl rfl (by kernel_rfl) (fun _ _ _ h => h) (Or.inl ⟨by rfl, by intro w'; go_simp; with_reducible rfl⟩) (by simp only [aq_]; rfl) ?_
   refine pup_ (i := 1) (N := some 18) HT_ rfl rfl (by kernel_rfl) (fun _ _ _ h => h) (Or.inl ⟨by rfl, by intro w'; go_simp; with_reducible rfl⟩) (by simp only [aq_]; rfl) ?_
   refine pup_ (i := 2) (N := some 19) HT_ rfl rfl (by kernel_rfl) (fun _ _ _ h => h) (Or.inl ⟨by rfl, by intro w'; go_simp; with_reducible rfl⟩) (by simp only [aq_]; rfl) ?_
   refine pup_ (i := 4) (N := some 21) HT_ rfl rfl (by kernel_rfl) (fun _ _ _ h => h) (Or.inl ⟨by rfl, by intro w'; go_simp; with_reducible rfl⟩) (by simp only [aq_]; rfl) ?_
   refine pup_ (i := 5) (N := some 22) HT_ rfl rfl (by kernel_rfl) (fun _ _ _ h => h) (Or.inl ⟨by rfl, by intro w'; go_simp; with_reducible rfl⟩) (by simp only [aq_]; rfl) ?_
   refine pup_ (i := 6) (N := some 23) HT_ rfl rfl (by kernel_rfl) (fun _ _ _ h => h) (Or.inl ⟨by rfl, by intro w'; go_simp; with_reducible rfl⟩) (by simp only [aq_]; rfl) ?_
   refine take_ (i := 3) (N := some 20) (v := ?_) (a' := ?_) q20_7 rfl rfl (take_ofW HT_.out HW_.out (by kernel_rfl)) (fun _ _ _ h => h) (Or.inl ⟨by rfl, ?_⟩) hHeld ?_ ?_
   rotate_left
   ·rintro w' ⟨s0, s1⟩
    go_simp
    with_reducible rfl
   rotate_left
   ·simp only [aq_]
    rfl
   refine take_ (i := 7) (N := some 24) (v := ?_) (a' := ?_) q20_8 rfl rfl (take_ofW HT_.out HW_.out (by kernel_rfl)) (fun _ _ _ h => h) (Or.inl ⟨by rfl, ?_⟩) hHeld ?_ ?_
   rotate_left
   ·rintro w' ⟨s0, s1⟩
    go_simp
    with_reducible rfl
   rotate_left
   ·simp only [aq_]
    rfl
   refine one_ (i := 8) (N := some 25) q20_9 rfl rfl (one_of HT_.out (by kernel_rfl)) (by decide) (fun K hK => ?_)
   refine goes_ Try.func35 (by kernel_rfl) rfl #[.slice A326_0 (rd_L5 l0 x5_1).length c326_0, .slice A327_0 (rd_L5 l1 x5_1).length c327_0] (by rfl) rfl rfl (by (try simp only [mA_]); first | done | rfl | (simp only [List.length_drop, List.length_take]; rfl)) ?_
   with_reducible refine (laws_eqOpS.calls k1 _ _ (rd_L5 l0 x5_1) _ _ (rd_L5 l1 x5_1) true _ ?side1 ?side2 ?side3 ?side4 A7.out).mono ?_
   (case side1 => first | exact bC HR326_0.out HB.out | exact Kd.C_below HR326_0.out HB.out)
   (case side2 => exact HC326_0.out)
   (case side3 => first | exact bC HR327_0.out HB.out | exact Kd.C_below HR327_0.out HB.out)
   (case side4 => exact HC327_0.out)
   rintro e w10 ⟨rfl, hb⟩
   refine ⟨_, rfl, ?_⟩
   have n0_ := Aside0.mk (below_step (bw HB.out) hb)
   replace HB := n0_
   clear n0_
   (try clear hb)
   (try clear hb2)
   (try clear hk)
   (try clear hi)
   refine hK.out _ _ ⟨(bcl_ HB.out hw326_0 :), (bcl_ HB.out hw327_0 :)⟩ (fun hHeld => ?_)
   clear hK K
   refine norm_ (a' := ?_) ?_ ?_
   rotate_left
   ·show Act.put _ (some 25) _ = _
    simp only [aq_]
    rfl
   refine pup_ (i := 9) (N := some 26) HT_ rfl rfl (by kernel_rfl) (fun _ _ _ h => h) (Or.inl ⟨by rfl, by intro w'; go_simp; with_reducible rfl⟩) (by simp only [aq_]; rfl) ?_
   refine done_ (done_of HT_.out (by kernel_rfl)) ?_
   try go_wp2
   go_roundg k1
   case measure => have := HK1.out; omega
   case rel => exact ⟨(wrap64 (x5_1 + 1)), (by first | rfl | (simp; done) | (simp [*]; done)), H', ⟨by have := HK1.out; omega⟩, ⟨bw HB.out⟩⟩

/-! ### laws_eqJobShop: function 10 -/
def laws_eqJobShop.f (k : Nat) (a0_0 : Int) (l0_1 : List (List (S62))) (a1_0 : Int) (l1_1 : List (List (S62))) : Option (Bool) := if a0_0 = a1_0 then ((laws_eqOpSS.f k l0_1 l1_1).bind fun t331 => (if t331 = true then (some true) else (some false))) else (some false)
theorem laws_eqJobShop.mono : ∀ a0 a1 a2 a3 k, LeO (laws_eqJobShop.f k a0 a1 a2 a3) (laws_eqJobShop.f (k + 1) a0 a1 a2 a3) := by
 intro a0 a1 a2 a3 k
 unfold laws_eqJobShop.f
 repeat' first
   | (with_reducible exact laws_eqOpSS.mono _ _ _)
   | (with_reducible exact LeO.refl _)
   | (with_reducible exact LeO.none _)
   | (with_reducible refine LeO.ite ?_ ?_)
   | (with_reducible refine LeO.bind ?_ (fun _ => ?_))
   | exact laws_eqOpSS.mono _ _ _
   | exact LeO.none _
   | refine LeO.ite ?_ ?_
   | refine LeO.bind ?_ (fun _ => ?_)
set_option maxHeartbeats 8000000 in
set_option maxRecDepth 100000 in
theorem laws_eqJobShop.calls (k : Nat) (a0_0 : Int) (A0_1 : Option Addr) (c0_1 : Nat) (l0_1 : List (List (S62))) (a1_0 : Int) (A1_1 : Option Addr) (c1_1 : Nat) (l1_1 : List (List (S62))) (r : Bool) (w : World) (hr0_1 : Kd.C (Kd.slice 62 k62) w A0_1 l0_1.length l0_1) (hc0_1 : l0_1.length ≤ c0_1) (hr1_1 : Kd.C (Kd.slice 62 k62) w A1_1 l1_1.length l1_1) (hc1_1 : l1_1.length ≤ c1_1) (h : laws_eqJobShop.f k a0_0 l0_1 a1_0 l1_1 = some r) :
  Calls Try.prog 10 #[.agg #[.int .i64 a0_0, .slice A0_1 l0_1.length c0_1], .agg #[.int .i64 a1_0, .slice A1_1 l1_1.length c1_1]] w fun e w' => e = .returned (.bool r) ∧ Below w.heap.size w w' := by
 have hu32 := Try.underlying32
 have HR0_1 := Aside0.mk hr0_1
 have HC0_1 := Aside0.mk hc0_1
 clear hr0_1 hc0_1
 have HR1_1 := Aside0.mk hr1_1
 have HC1_1 := Aside0.mk hc1_1
 clear hr1_1 hc1_1
 have HB := Aside0.mk (Below.refl w.heap.size w)
 have H : (if a0_0 = a1_0 then ((laws_eqOpSS.f k l0_1 l1_1).bind fun t331 => (if t331 = true then (some true) else (some false))) else (some false)) = some r := h
 clear h
 by_cases c3 : a0_0 = a1_0
 rotate_left
 ·rw [if_neg c3] at H
  have c3b0 : (a0_0 == a1_0) = false := beq_eq_false_iff_ne.mpr c3
  have c3b1 : (a0_0 != a1_0) = true := bne_iff_ne.mpr c3
  obtain rfl := Option.some.inj H
  go_enter Try.func10, Try.ntmps10
  go_wp2_with (first | ((with_reducible refine gate_dst (N := 2) rfl ?_); refine box_event ?hg (N := 2) ?hd (cs := #[.int .i64 a0_0, .slice A0_1 l0_1.length c0_1]) (t := 32) ?hr ?_; (case hd => rfl); (case hg => rfl); (case hr => first | (go_simp; done) | (go_simp; rfl)); intro gb329 hg w18 hbox hb; have n0_ := Aside0.mk (below_step (bw HB.out) hb); have n1_ := Aside0.mk (hbox); have n2_ := ge_ hg HB.out; have n3_ := ge_ hg HB.out; replace HB := n0_; have BK329 := n1_; have GW329 := n2_; have GE329 := n3_; clear n0_ n1_ n2_ n3_; clear hb hbox hg) | ((with_reducible refine gate_dst (N := 3) rfl ?_); refine box_event ?hg (N := 3) ?hd (cs := #[.int .i64 a1_0, .slice A1_1 l1_1.length c1_1]) (t := 32) ?hr ?_; (case hd => rfl); (case hg => rfl); (case hr => first | (go_simp; done) | (go_simp; rfl)); intro gb330 hg w19 hbox hb; have n0_ := Aside0.mk (blk_below (bs BK329.out) hb); have n1_ := Aside0.mk (below_step (by repeat (first | (with_reducible first | exact bw HB.out | refine bset ?_ | apply bA | apply bN | apply bD) | exact HB.out)) hb); have n2_ := Aside0.mk (hbox); have n3_ := Aside0.mk ((by rw [hg]; exact (below_size (by repeat (first | (with_reducible first | exact bw HB.out | refine bset ?_ | apply bA | apply bN | apply bD) | exact HB.out))) : w.heap.size ≤ gb330)); have n4_ := Aside0.mk ((by rw [hg]; exact (below_size (by repeat (first | (with_reducible first | exact bw HB.out | refine bset ?_ | apply bA | apply bN | apply bD) | exact HB.out))) : w.heap.size ≤ gb330)); have n5_ := ne_ hg BK329.out; have n6_ := en_ hg BK329.out; replace BK329 := n0_; replace HB := n1_; have BK330 := n2_; have GW330 := n3_; have GE330 := n4_; have NB329_330 := n5_; have NB330_329 := n6_; clear n0_ n1_ n2_ n3_ n4_ n5_ n6_; clear hb hbox hg; have hnb20 := NB329_330.out; have hnc20 := NB330_329.out; obtain ⟨hcz21_0, hcz21_1, hfz21_0, hfz21_1⟩ := bz2 BK329.out; obtain ⟨hcz22_0, hcz22_1, hfz22_0, hfz22_1⟩ := bz2 BK330.out))
  go_ret
  exact ⟨by first | rfl | (simp [errW_none, errW_some] <;> rfl) | (simp [*, errW_none, errW_some] <;> rfl), by repeat (first | (with_reducible first | exact bw HB.out | refine bset ?_ | apply bA | apply bN | apply bD) | exact HB.out)⟩
 rw [if_pos c3] at H
 have c3b0 : (a0_0 == a1_0) = true := beq_iff_eq.mpr c3
 have c3b1 : (a0_0 != a1_0) = false := bne_eq_false_iff_eq.mpr c3
 clear c3
 replace H := Option.bind_eq_some_iff.mp H
 obtain ⟨t331, A40, H⟩ := H
 replace H : (if t331 = true then (some true) else (some false)) = some r := H
 have A4 := Aside0.mk A40
 clear A40
 by_cases c5 : t331 = true
 ·subst c5
  have H1 : (some true) = some r := by rw [if_pos rfl] at H; exact H
  clear H
  have H := H1
  clear H1
  obtain rfl := Option.some.inj H
  go_enter Try.func10, Try.ntmps10
  go_wp2_with (first | ((with_reducible refine gate_dst (N := 2) rfl ?_); refine box_event ?hg (N := 2) ?hd (cs := #[.int .i64 a0_0, .slice A0_1 l0_1.length c0_1]) (t := 32) ?hr ?_; (case hd => rfl); (case hg => rfl); (case hr => first | (go_simp; done) | (go_simp; rfl)); intro gb329 hg w6 hbox hb; have n0_ := Aside0.mk (below_step (bw HB.out) hb); have n1_ := Aside0.mk (hbox); have n2_ := ge_ hg HB.out; have n3_ := ge_ hg HB.out; replace HB := n0_; have BK329 := n1_; have GW329 := n2_; have GE329 := n3_; clear n0_ n1_ n2_ n3_; clear hb hbox hg) | ((with_reducible refine gate_dst (N := 3) rfl ?_); refine box_event ?hg (N := 3) ?hd (cs := #[.int .i64 a1_0, .slice A1_1 l1_1.length c1_1]) (t := 32) ?hr ?_; (case hd => rfl); (case hg => rfl); (case hr => first | (go_simp; done) | (go_simp; rfl)); intro gb330 hg w7 hbox hb; have n0_ := Aside0.mk (blk_below (bs BK329.out) hb); have n1_ := Aside0.mk (below_step (by repeat (first | (with_reducible first | exact bw HB.out | refine bset ?_ | apply bA | apply bN | apply bD) | exact HB.out)) hb); have n2_ := Aside0.mk (hbox); have n3_ := Aside0.mk ((by rw [hg]; exact (below_size (by repeat (first | (with_reducible first | exact bw HB.out | refine bset ?_ | apply bA | apply bN | apply bD) | exact HB.out))) : w.heap.size ≤ gb330)); have n4_ := Aside0.mk ((by rw [hg]; exact (below_size (by repeat (first | (with_reducible first | exact bw HB.out | refine bset ?_ | apply bA | apply bN | apply bD) | exact HB.out))) : w.heap.size ≤ gb330)); have n5_ := ne_ hg BK329.out; have n6_ := en_ hg BK329.out; replace BK329 := n0_; replace HB := n1_; have BK330 := n2_; have GW330 := n3_; have GE330 := n4_; have NB329_330 := n5_; have NB330_329 := n6_; clear n0_ n1_ n2_ n3_ n4_ n5_ n6_; clear hb hbox hg; have hnb8 := NB329_330.out; have hnc8 := NB330_329.out; obtain ⟨hcz9_0, hcz9_1, hfz9_0, hfz9_1⟩ := bz2 BK329.out; obtain ⟨hcz10_0, hcz10_1, hfz10_0, hfz10_1⟩ := bz2 BK330.out) | ((with_reducible refine gate_callee (f := 20) rfl ?_); refine goesL_ (some 14) rfl rfl Try.func20 (by kernel_rfl) rfl #[.slice A0_1 l0_1.length c0_1, .slice A1_1 l1_1.length c1_1] rfl (by (try simp only [mA_]); first | done | rfl | (simp only [List.length_drop, List.length_take]; rfl)) ?_; (with_reducible refine (laws_eqOpSS.calls k _ _ l0_1 _ _ l1_1 true _ ?side1 ?side2 ?side3 ?side4 A4.out).mono ?_); (case side1 => first | exact bC HR0_1.out HB.out | exact Kd.C_below HR0_1.out HB.out); (case side2 => exact HC0_1.out); (case side3 => first | exact bC HR1_1.out HB.out | exact Kd.C_below HR1_1.out HB.out); (case side4 => exact HC1_1.out); rintro e w11 ⟨rfl, hb⟩; refine ⟨_, rfl, ?_⟩; have n0_ := Aside0.mk (blk_below (bs BK329.out) hb); have n1_ := Aside0.mk (blk_below (bs BK330.out) hb); have n2_ := Aside0.mk (below_step (by repeat (first | (with_reducible first | exact bw HB.out | refine bset ?_ | apply bA | apply bN | apply bD) | exact HB.out)) hb); replace BK329 := n0_; replace BK330 := n1_; replace HB := n2_; clear n0_ n1_ n2_; (try clear hb); (try clear hb2); (try clear hk); (try clear hi)))
  go_ret
  exact ⟨by first | rfl | (simp [errW_none, errW_some] <;> rfl) | (simp [*, errW_none, errW_some] <;> rfl), by repeat (first | (with_reducible first | exact bw HB.out | refine bset ?_ | apply bA | apply bN | apply bD) | exact HB.out)⟩
 replace c5 := Bool.eq_false_iff.mpr c5
 subst c5
 have H1 : (some false) = some r := by rw [if_neg (show ¬ (false = true) by decide)] at H; exact H
 clear H
 have H := H1
 clear H1
 obtain rfl := Option.some.inj H
 go_enter Try.func10, Try.ntmps10
 go_wp2_with (first | ((with_reducible refine gate_dst (N := 2) rfl ?_); refine box_event ?hg (N := 2) ?hd (cs := #[.int .i64 a0_0, .slice A0_1 l0_1.length c0_1]) (t := 32) ?hr ?_; (case hd => rfl); (case hg => rfl); (case hr => first | (go_simp; done) | (go_simp; rfl)); intro gb329 hg w12 hbox hb; have n0_ := Aside0.mk (below_step (bw HB.out) hb); have n1_ := Aside0.mk (hbox); have n2_ := ge_ hg HB.out; have n3_ := ge_ hg HB.out; replace HB := n0_; have BK329 := n1_; have GW329 := n2_; have GE329 := n3_; clear n0_ n1_ n2_ n3_; clear hb hbox hg) | ((with_reducible refine gate_dst (N := 3) rfl ?_); refine box_event ?hg (N := 3) ?hd (cs := #[.int .i64 a1_0, .slice A1_1 l1_1.length c1_1]) (t := 32) ?hr ?_; (case hd => rfl); (case hg => rfl); (case hr => first | (go_simp; done) | (go_simp; rfl)); intro gb330 hg w13 hbox hb; have n0_ := Aside0.mk (blk_below (bs BK329.out) hb); have n1_ := Aside0.mk (below_step (by repeat (first | (with_reducible first | exact bw HB.out | refine bset ?_ | apply bA | apply bN | apply bD) | exact HB.out)) hb); have n2_ := Aside0.mk (hbox); have n3_ := Aside0.mk ((by rw [hg]; exact (below_size (by repeat (first | (with_reducible first | exact bw HB.out | refine bset ?_ | apply bA | apply bN | apply bD) | exact HB.out))) : w.heap.size ≤ gb330)); have n4_ := Aside0.mk ((by rw [hg]; exact (below_size (by repeat (first | (with_reducible first | exact bw HB.out | refine bset ?_ | apply bA | apply bN | apply bD) | exact HB.out))) : w.heap.size ≤ gb330)); have n5_ := ne_ hg BK329.out; have n6_ := en_ hg BK329.out; replace BK329 := n0_; replace HB := n1_; have BK330 := n2_; have GW330 := n3_; have GE330 := n4_; have NB329_330 := n5_; have NB330_329 := n6_; clear n0_ n1_ n2_ n3_ n4_ n5_ n6_; clear hb hbox hg; have hnb14 := NB329_330.out; have hnc14 := NB330_329.out; obtain ⟨hcz15_0, hcz15_1, hfz15_0, hfz15_1⟩ := bz2 BK329.out; obtain ⟨hcz16_0, hcz16_1, hfz16_0, hfz16_1⟩ := bz2 BK330.out) | ((with_reducible refine gate_callee (f := 20) rfl ?_); refine goesL_ (some 14) rfl rfl Try.func20 (by kernel_rfl) rfl #[.slice A0_1 l0_1.length c0_1, .slice A1_1 l1_1.length c1_1] rfl (by (try simp only [mA_]); first | done | rfl | (simp only [List.length_drop, List.length_take]; rfl)) ?_; (with_reducible refine (laws_eqOpSS.calls k _ _ l0_1 _ _ l1_1 false _ ?side1 ?side2 ?side3 ?side4 A4.out).mono ?_); (case side1 => first | exact bC HR0_1.out HB.out | exact Kd.C_below HR0_1.out HB.out); (case side2 => exact HC0_1.out); (case side3 => first | exact bC HR1_1.out HB.out | exact Kd.C_below HR1_1.out HB.out); (case side4 => exact HC1_1.out); rintro e w17 ⟨rfl, hb⟩; refine ⟨_, rfl, ?_⟩; have n0_ := Aside0.mk (blk_below (bs BK329.out) hb); have n1_ := Aside0.mk (blk_below (bs BK330.out) hb); have n2_ := Aside0.mk (below_step (by repeat (first | (with_reducible first | exact bw HB.out | refine bset ?_ | apply bA | apply bN | apply bD) | exact HB.out)) hb); replace BK329 := n0_; replace BK330 := n1_; replace HB := n2_; clear n0_ n1_ n2_; (try clear hb); (try clear hb2); (try clear hk); (try clear hi)))
 go_ret
 exact ⟨by first | rfl | (simp [errW_none, errW_some] <;> rfl) | (simp [*, errW_none, errW_some] <;> rfl), by repeat (first | (with_reducible first | exact bw HB.out | refine bset ?_ | apply bA | apply bN | apply bD) | exact HB.out)⟩

/-! ### laws_eqIntA2: function 21 -/
def laws_eqIntA2.f (a0_0 : Int) (a0_1 : Int) (a1_0 : Int) (a1_1 : Int) : Option (Bool) := if a0_0 = a1_0 then (if a0_1 = a1_1 then (some true) else (some false)) else (some false)
set_option maxHeartbeats 8000000 in
set_option maxRecDepth 100000 in
theorem laws_eqIntA2.calls (a0_0 : Int) (a0_1 : Int) (a1_0 : Int) (a1_1 : Int) (r : Bool) (w : World) (h : laws_eqIntA2.f a0_0 a0_1 a1_0 a1_1 = some r) :
  Calls Try.prog 21 #[.agg #[.int .i64 a0_0, .int .i64 a0_1], .agg #[.int .i64 a1_0, .int .i64 a1_1]] w fun e w' => e = .returned (.bool r) ∧ Below w.heap.size w w' := by
 have hu := Try.underlying43
 unfold laws_eqIntA2.f at h
 by_cases h1 : a0_0 = a1_0
 rotate_left
 ·rw [if_neg h1] at h
  obtain rfl := Option.some.inj h
  have b1 : (a0_0 == a1_0) = false := beq_eq_false_iff_ne.mpr h1
  have b2 : (a0_0 != a1_0) = true := bne_iff_ne.mpr h1
  clear h
  go_enter Try.func21, Try.ntmps21
  go_wp2
  refine wp_loop_rounds 3 ?_
  rw [rounds_succ]
  go_wp2
  go_quiet (fail)
  go_wp2
  go_ret
  exact ⟨rfl, by repeat (first | (with_reducible first | exact Below.refl _ _ | apply below_alloc | apply pw_below_drewN | apply below_drew1))⟩
 subst h1
 rw [if_pos rfl] at h
 by_cases h2 : a0_1 = a1_1
 ·subst h2
  rw [if_pos rfl] at h
  obtain rfl := Option.some.inj h
  clear h
  go_enter Try.func21, Try.ntmps21
  go_wp2
  refine wp_loop_rounds 3 ?_
  rw [rounds_succ]
  go_wp2
  go_quiet (fail)
  go_wp2
  rw [rounds_succ]
  go_wp2
  go_quiet (fail)
  go_wp2
  rw [rounds_succ]
  go_wp2
  go_ret
  exact ⟨rfl, by repeat (first | (with_reducible first | exact Below.refl _ _ | apply below_alloc | apply pw_below_drewN | apply below_drew1))⟩
 rw [if_neg h2] at h
 obtain rfl := Option.some.inj h
 have b1 : (a0_1 == a1_1) = false := beq_eq_false_iff_ne.mpr h2
 have b2 : (a0_1 != a1_1) = true := bne_iff_ne.mpr h2
 clear h
 go_enter Try.func21, Try.ntmps21
 go_wp2
 refine wp_loop_rounds 3 ?_
 rw [rounds_succ]
 go_wp2
 go_quiet (fail)
 go_wp2
 rw [rounds_succ]
 go_wp2
 go_quiet (fail)
 go_wp2
 go_ret
 exact ⟨rfl, by repeat (first | (with_reducible first | exact Below.refl _ _ | apply below_alloc | apply pw_below_drewN | apply below_drew1))⟩

/-! ### laws_eqIntA2S: function 11 -/
abbrev q11_0 : Array Bool := ⟨rl_ [10] false⟩
abbrev q11_7 : Array Bool := ⟨rl_ [7, 3] true⟩
abbrev q11_8 : Array Bool := ⟨rl_ [8, 2] true⟩
abbrev q11_9 : Array Bool := ⟨rl_ [9, 1] true⟩
def laws_eqIntA2S.l0 : Nat → List (S43) → List (S43) → Int → Option (Bool)
 | 0, _, _, _ => none
 | k + 1, x0, x1, x5 => if x5 < (x0.length : Int) then (if 0 ≤ x5 then (if x5 < (x1.length : Int) then ((laws_eqIntA2.f ((rd_T43 x0 x5).f0) ((rd_T43 x0 x5).f1) ((rd_T43 x1 x5).f0) ((rd_T43 x1 x5).f1)).bind fun t334 => (if t334 = true then (laws_eqIntA2S.l0 k x0 x1 (wrap64 (x5 + 1))) else (some false))) else (none)) else (none)) else (some true)
def laws_eqIntA2S.f (k : Nat) (l0 : List (S43)) (l1 : List (S43)) : Option (Bool) := if (l0.length : Int) = (l1.length : Int) then (laws_eqIntA2S.l0 k l0 l1 0) else (some false)
theorem laws_eqIntA2S.mono_l : ∀ k, (∀ y0 y1 y2, LeO (laws_eqIntA2S.l0 k y0 y1 y2) (laws_eqIntA2S.l0 (k + 1) y0 y1 y2))
 | 0 => fun _ _ _ r h => by simp [laws_eqIntA2S.l0] at h
 | k + 1 => by
  have ih0 := laws_eqIntA2S.mono_l k
  ·intro y0 y1 y2
   unfold laws_eqIntA2S.l0
   repeat' first
   | (with_reducible exact ih0 _ _ _)
   | (with_reducible exact LeO.refl _)
   | (with_reducible exact LeO.none _)
   | (with_reducible refine LeO.ite ?_ ?_)
   | (with_reducible refine LeO.bind ?_ (fun _ => ?_))
   | exact ih0 _ _ _
   | exact LeO.none _
   | refine LeO.ite ?_ ?_
   | refine LeO.bind ?_ (fun _ => ?_)
theorem laws_eqIntA2S.mono : ∀ a0 a1 k, LeO (laws_eqIntA2S.f k a0 a1) (laws_eqIntA2S.f (k + 1) a0 a1) := by
 intro a0 a1 k
 have ih0 := laws_eqIntA2S.mono_l k
 unfold laws_eqIntA2S.f
 repeat' first
   | (with_reducible exact ih0 _ _ _)
   | (with_reducible exact LeO.refl _)
   | (with_reducible exact LeO.none _)
   | (with_reducible refine LeO.ite ?_ ?_)
   | (with_reducible refine LeO.bind ?_ (fun _ => ?_))
   | exact ih0 _ _ _
   | exact LeO.none _
   | refine LeO.ite ?_ ?_
   | refine LeO.bind ?_ (fun _ => ?_)
def laws_eqIntA2S.T6 : Bool × List (List Nat × List Nat) := (true, [([], []), ([], []), ([0, 1], [0, 1]), ([2], [2]), ([], []), ([], []), ([4, 5], [4, 5]), ([6], [6]), ([3, 7], [3, 7]), ([8], [8])])
def laws_eqIntA2S.B6 : List Nat := [0, 0, 3, 7, 0, 0, 48, 112, 255, 511]
theorem laws_eqIntA2S.tab6 : rtab .any (opsOf Try.f11 6) = laws_eqIntA2S.T6 := by kernel_rfl
theorem laws_eqIntA2S.bits6 : waitsOk laws_eqIntA2S.T6.2 laws_eqIntA2S.B6 = true := by kernel_rfl
set_option maxHeartbeats 8000000 in
set_option maxRecDepth 100000 in
theorem laws_eqIntA2S.calls (k : Nat) (A0 : Option Addr) (c0 : Nat) (l0 : List (S43)) (A1 : Option Addr) (c1 : Nat) (l1 : List (S43)) (r : Bool) (w : World) (hr0 : Kd.C k43 w A0 l0.length l0) (hc0 : l0.length ≤ c0) (hr1 : Kd.C k43 w A1 l1.length l1) (hc1 : l1.length ≤ c1) (h : laws_eqIntA2S.f k l0 l1 = some r) :
  Calls Try.prog 11 #[.slice A0 l0.length c0, .slice A1 l1.length c1] w fun e w' => e = .returned (.bool r) ∧ Below w.heap.size w w' := by
 have hu43 := Try.underlying43
 have HR0 := Aside0.mk hr0
 have HC0 := Aside0.mk hc0
 clear hr0 hc0
 have HR1 := Aside0.mk hr1
 have HC1 := Aside0.mk hc1
 clear hr1 hc1
 have HB := Aside0.mk (Below.refl w.heap.size w)
 have H : (if (l0.length : Int) = (l1.length : Int) then (laws_eqIntA2S.l0 k l0 l1 0) else (some false)) = some r := h
 clear h
 by_cases c3 : (l0.length : Int) = (l1.length : Int)
 rotate_left
 ·rw [if_neg c3] at H
  have c3b0 : ((l0.length : Int) == (l1.length : Int)) = false := beq_eq_false_iff_ne.mpr c3
  have c3b1 : ((l0.length : Int) != (l1.length : Int)) = true := bne_iff_ne.mpr c3
  have c3b2 : (l0.length == l1.length) = false := by first | simpa using c3 | (simp at c3 ⊢; omega)
  obtain rfl := Option.some.inj H
  go_enter Try.func11, Try.ntmps11
  go_wp2
  go_ret
  exact ⟨by first | rfl | (simp [errW_none, errW_some] <;> rfl) | (simp [*, errW_none, errW_some] <;> rfl), bw HB.out⟩
 rw [if_pos c3] at H
 have c3b0 : ((l0.length : Int) == (l1.length : Int)) = true := beq_iff_eq.mpr c3
 have c3b1 : ((l0.length : Int) != (l1.length : Int)) = false := bne_eq_false_iff_eq.mpr c3
 have c3b2 : (l0.length == l1.length) = true := by first | simpa using c3 | (simp at c3 ⊢; omega)
 clear c3
 have H' := Aside0.mk H
 clear H
 go_enter Try.func11, Try.ntmps11
 go_wp2
 go_loopg [5] k (fun kq v5 w' => ∃ (x5_1 : Int), v5 = .int .i64 x5_1 ∧ Aside0 (laws_eqIntA2S.l0 kq l0 l1 x5_1 = some r) ∧ Aside0 (kq ≤ k) ∧ Aside0 (Below w.heap.size w w'))
 case atStart => exact ⟨(0), (by first | rfl | (simp; done) | (simp [*]; done)), H', ⟨Nat.le_refl _⟩, ⟨bw HB.out⟩⟩
 case round =>
  clear H'
  try clear c1
  try clear p2
  try clear c3
  try clear c3b0
  try clear c3b1
  try clear c3b2
  obtain ⟨x5_1, rfl, HA, HK1, HB⟩ := hrel
  cases gk with
  | zero => exact absurd HA.out (by simp [laws_eqIntA2S.l0])
  | succ k1 =>
   have H := HA.out
   clear HA
   simp only [laws_eqIntA2S.l0] at H
   by_cases c4 : x5_1 < (l0.length : Int)
   rotate_left
   ·rw [if_neg c4] at H
    have c4b0 : decide (x5_1 < (l0.length : Int)) = false := decide_eq_false c4
    clear c4
    obtain rfl := Option.some.inj H
    go_wp2
    go_ret
    exact ⟨by first | rfl | (simp [errW_none, errW_some] <;> rfl) | (simp [*, errW_none, errW_some] <;> rfl), bw HB.out⟩
   rw [if_pos c4] at H
   have c4b0 : decide (x5_1 < (l0.length : Int)) = true := decide_eq_true c4
   clear c4
   by_cases c5 : 0 ≤ x5_1
   rotate_left
   ·rw [if_neg c5] at H
    exact absurd H (by simp)
   rw [if_pos c5] at H
   have c5b0 : decide (0 ≤ x5_1) = true := decide_eq_true c5
   clear c5
   by_cases c6 : x5_1 < (l1.length : Int)
   rotate_left
   ·rw [if_neg c6] at H
    exact absurd H (by simp)
   rw [if_pos c6] at H
   have c6b0 : decide (x5_1 < (l1.length : Int)) = true := decide_eq_true c6
   clear c6
   replace H := Option.bind_eq_some_iff.mp H
   obtain ⟨t334, A70, H⟩ := H
   replace H : (if t334 = true then (laws_eqIntA2S.l0 k1 l0 l1 (wrap64 (x5_1 + 1))) else (some false)) = some r := H
   have A7 := Aside0.mk A70
   clear A70
   by_cases c8 : t334 = true
   rotate_left
   ·replace c8 := Bool.eq_false_iff.mpr c8
    subst c8
    have H1 : (some false) = some r := by rw [if_neg (show ¬ (false = true) by decide)] at H; exact H
    clear H
    have H := H1
    clear H1
    obtain rfl := Option.some.inj H
    try go_wp2
    have n0_ := Aside0.mk (below_drew1 HB.out)
    replace HB := n0_
    clear n0_
    have p332 : 0 ≤ (x5_1 : Int) := of_decide_eq_true (by first | (with_reducible assumption) | assumption)
    have q332 : x5_1 < (l0.length : Int) := of_decide_eq_true (by first | (with_reducible assumption) | assumption)
    obtain ⟨ad332, e332, hx332_0, hx332_1⟩ := at_T43 HR0.out x5_1 p332 q332
    have hw332_1 := hx332_1
    have hw332_0 := hx332_0
    cases e332
    replace hx332_0 := (HB.out.cell (World.block_lt_of_cell? w _ hx332_0)).trans hx332_0
    replace hx332_1 := (HB.out.cell (World.block_lt_of_cell? w _ hx332_1)).trans hx332_1
    replace p332 := eq_true p332
    replace q332 := eq_true q332
    have p333 : 0 ≤ (x5_1 : Int) := of_decide_eq_true (by first | (with_reducible assumption) | assumption)
    have q333 : x5_1 < (l1.length : Int) := of_decide_eq_true (by first | (with_reducible assumption) | assumption)
    obtain ⟨ad333, e333, hx333_0, hx333_1⟩ := at_T43 HR1.out x5_1 p333 q333
    have hw333_1 := hx333_1
    have hw333_0 := hx333_0
    cases e333
    replace hx333_0 := (HB.out.cell (World.block_lt_of_cell? w _ hx333_0)).trans hx333_0
    replace hx333_1 := (HB.out.cell (World.block_lt_of_cell? w _ hx333_1)).trans hx333_1
    replace p333 := eq_true p333
    replace q333 := eq_true q333
    refine start_ (n := 10) (S := fun w' => w'.cell? (ad332.add ((x5_1).toNat * 2)) = some (.int .i64 ((rd_T43 l0 x5_1).f0)) ∧ w'.cell? ⟨(ad332.add ((x5_1).toNat * 2)).block, (ad332.add ((x5_1).toNat * 2)).off + 1, none⟩ = some (.int .i64 ((rd_T43 l0 x5_1).f1)) ∧ w'.cell? (ad333.add ((x5_1).toNat * 2)) = some (.int .i64 ((rd_T43 l1 x5_1).f0)) ∧ w'.cell? ⟨(ad333.add ((x5_1).toNat * 2)).block, (ad333.add ((x5_1).toNat * 2)).off + 1, none⟩ = some (.int .i64 ((rd_T43 l1 x5_1).f1))) (ds := []) q11_0 (by kernel_rfl) rfl rfl ⟨(bcl_ HB.out hw332_0 :), (bcl_ HB.out hw332_1 :), (bcl_ HB.out hw333_0 :), (bcl_ HB.out hw333_1 :)⟩ (fun hHeld => ?_); refine with_tabW laws_eqIntA2S.tab6 laws_eqIntA2S.bits6 (fun HT_ HW_ => ?_)
    generalize wr.drew = w11 at HB hx332_0 hx332_1 hx333_0 hx333_1 hHeld ⊢
    refine pup_ (i := 0) (N := some 17) HT_ rfl rfl (by kernel_rfl) (fun _ _ _ h => h) (Or.inl ⟨by rfl, by intro w'; go_simp; with_reducible rfl⟩) (by simp only [aq_]; rfl) ?_
    refine pup_ (i := 1) (N := some 18) HT_ rfl rfl (by kernel_rfl) (fun _ _ _ h => h) (Or.inl ⟨by rfl, by intro w'; go_simp; with_reducible rfl⟩) (by simp only [aq_]; rfl) ?_
    refine pup_ (i := 2) (N := some 19) HT_ rfl rfl (by kernel_rfl) (fun _ _ _ h => h) (Or.inl ⟨by rfl, by intro w'; go_simp; with_reducible rfl⟩) (by simp only [aq_]; rfl) ?_
    refine pup_ (i := 4) (N := some 21) HT_ rfl rfl (by kernel_rfl) (fun _ _ _ h => h) (Or.inl ⟨by rfl, by intro w'; go_simp; with_reducible rfl⟩) (by simp only [aq_]; rfl) ?_
    refine pup_ (i := 5) (N := some 22) HT_ rfl rfl (by kernel_rfl) (fun _ _ _ h => h) (Or.inl ⟨by rfl, by intro w'; go_simp; with_reducible rfl⟩) (by simp only [aq_]; rfl) ?_
    refine pup_ (i := 6) (N := some 23) HT_ rfl rfl (by kernel_rfl) (fun _ _ _ h => h) (Or.inl ⟨by rfl, by intro w'; go_simp; with_reducible rfl⟩) (by simp only [aq_]; rfl) ?_
    refine take_ (i := 3) (N := some 20) (v := ?_) (a' := ?_) q11_7 rfl rfl (take_ofW HT_.out HW_.out (by kernel_rfl)) (fun _ _ _ h => h) (Or.inl ⟨by rfl, ?_⟩) hHeld ?_ ?_
    rotate_left
    ·rintro w' ⟨s0, s1, s2, s3⟩
     go_simp
     with_reducible rfl
    rotate_left
    ·simp only [aq_]
     rfl
    refine take_ (i := 7) (N := some 24) (v := ?_) (a' := ?_) q11_8 rfl rfl (take_ofW HT_.out HW_.out (by kernel_rfl)) (fun _ _ _ h => h) (Or.inl ⟨by rfl, ?_⟩) hHeld ?_ ?_
    rotate_left
    ·rintro w' ⟨s0, s1, s2, s3⟩
     go_simp
     with_reducible rfl
    rotate_left
    ·simp only [aq_]
     rfl
    refine one_ (i := 8) (N := some 25) q11_9 rfl rfl (one_of HT_.out (by kernel_rfl)) (by decide) (fun K hK => ?_)
    refine goes_ Try.func21 (by kernel_rfl) rfl #[.agg #[.int .i64 ((rd_T43 l0 x5_1).f0), .int .i64 ((rd_T43 l0 x5_1).f1)], .agg #[.int .i64 ((rd_T43 l1 x5_1).f0), .int .i64 ((rd_T43 l1 x5_1).f1)]] (by rfl) rfl rfl (by (try simp only [mA_]); first | done | rfl | (simp only [List.length_drop, List.length_take]; rfl)) ?_
    with_reducible refine (laws_eqIntA2.calls ((rd_T43 l0 x5_1).f0) ((rd_T43 l0 x5_1).f1) ((rd_T43 l1 x5_1).f0) ((rd_T43 l1 x5_1).f1) false _ A7.out).mono ?_
    rintro e w12 ⟨rfl, hb⟩
    refine ⟨_, rfl, ?_⟩
    have n0_ := Aside0.mk (below_step (bw HB.out) hb)
    replace HB := n0_
    clear n0_
    (try clear hb)
    (try clear hb2)
    (try clear hk)
    (try clear hi)
    refine hK.out _ _ ⟨(bcl_ HB.out hw332_0 :), (bcl_ HB.out hw332_1 :), (bcl_ HB.out hw333_0 :), (bcl_ HB.out hw333_1 :)⟩ (fun hHeld => ?_)
    clear hK K
    refine norm_ (a' := ?_) ?_ ?_
    rotate_left
    ·show Act.put _ (some 25) _ = _
     simp only [aq_]
     rfl
    refine pup_ (i := 9) (N := some 26) HT_ rfl rfl (by kernel_rfl) (fun _ _ _ h => h) (Or.inl ⟨by rfl, by intro w'; go_simp; with_reducible rfl⟩) (by simp only [aq_]; rfl) ?_
    refine done_ (done_of HT_.out (by kernel_rfl)) ?_
    try go_wp2
    go_ret
    exact ⟨by first | rfl | (simp [errW_none, errW_some] <;> rfl) | (simp [*, errW_none, errW_some] <;> rfl), bw HB.out⟩
   subst c8
   have H1 : (laws_eqIntA2S.l0 k1 l0 l1 (wrap64 (x5_1 + 1))) = some r := by rw [if_pos rfl] at H; exact H
   clear H
   have H := H1
   clear H1
   have H' := Aside0.mk H
   clear H
   try go_wp2
   have n0_ := Aside0.mk (below_drew1 HB.out)
   replace HB := n0_
   clear n0_
   have p332 : 0 ≤ (x5_1 : Int) := of_decide_eq_true (by first | (with_reducible assumption) | assumption)
   have q332 : x5_1 < (l0.length : Int) := of_decide_eq_true (by first | (with_reducible assumption) | assumption)
   obtain ⟨ad332, e332, hx332_0, hx332_1⟩ := at_T43 HR0.out x5_1 p332 q332
   have hw332_1 := hx332_1
   have hw332_0 := hx332_0
   cases e332
   replace hx332_0 := (HB.out.cell (World.block_lt_of_cell? w _ hx332_0)).trans hx332_0
   replace hx332_1 := (HB.out.cell (World.block_lt_of_cell? w _ hx332_1)).trans hx332_1
   replace p332 := eq_true p332
   replace q332 := eq_true q332
   have p333 : 0 ≤ (x5_1 : Int) := of_decide_eq_true (by first | (with_reducible assumption) | assumption)
   have q333 : x5_1 < (l1.length : Int) := of_decide_eq_true (by first | (with_reducible assumption) | assumption)
   obtain ⟨ad333, e333, hx333_0, hx333_1⟩ := at_T43 HR1.out x5_1 p333 q333
   have hw333_1 := hx333_1
   have hw333_0 := hx333_0
   cases e333
   replace hx333_0 := (HB.out.cell (World.block_lt_of_cell? w _ hx333_0)).trans hx333_0
   replace hx333_1 := (HB.out.cell (World.block_lt_of_cell? w _ hx333_1)).trans hx333_1
   replace p333 := eq_true p333
   replace q333 := eq_true q333
   refine start_ (n := 10) (S := fun w' => w'.cell? (ad332.add ((x5_1).toNat * 2)) = some (.int .i64 ((rd_T43 l0 x5_1).f0)) ∧ w'.cell? ⟨(ad332.add ((x5_1).toNat * 2)).block, (ad332.add ((x5_1).toNat * 2)).off + 1, none⟩ = some (.int .i64 ((rd_T43 l0 x5_1).f1)) ∧ w'.cell? (ad333.add ((x5_1).toNat * 2)) = some (.int .i64 ((rd_T43 l1 x5_1).f0)) ∧ w'.cell? ⟨(ad333.add ((x5_1).toNat * 2)).block, (ad333.add ((x5_1).toNat * 2)).off + 1, none⟩ = some (.int .i64 ((rd_T43 l1 x5_1).f1))) (ds := []) q11_0 (by kernel_rfl) rfl rfl ⟨(bcl_ HB.out hw332_0 :), (bcl_ HB.out hw332_1 :), (bcl_ HB.out hw333_0 :), (bcl_ HB.out hw333_1 :)⟩ (fun hHeld => ?_); refine with_tabW laws_eqIntA2S.tab6 laws_eqIntA2S.bits6 (fun HT_ HW_ => ?_)
   generalize wr.drew = w9 at HB hx332_0 hx332_1 hx333_0 hx333_1 hHeld ⊢
   refine pup_ (i := 0) (N := some 17) HT_ rfl rfl (by kernel_rfl) (fun _ _ _ h => h) (Or.inl ⟨by rfl, by intro w'; go_simp; with_reducible rfl⟩) (by simp only [aq_]; rfl) ?_
   refine pup_ (i := 1) (N := some 18) HT_ rfl rfl (by kernel_rfl) (fun _ _ _ h => h) (Or.inl ⟨by rfl, by intro w'; go_simp; with_reducible rfl⟩) (by simp only [aq_]; rfl) ?_
   refine pup_ (i := 2) (N := some 19) HT_ rfl rfl (by kernel_rfl) (fun _ _ _ h => h) (Or.inl ⟨by rfl, by intro w'; go_simp; with_reducible rfl⟩) (by simp only [aq_]; rfl) ?_
   refine pup_ (i := 4) (N := some 21) HT_ rfl rfl (by kernel_rfl) (fun _ _ _ h => h) (Or.inl ⟨by rfl, by intro w'; go_simp; with_reducible rfl⟩) (by simp only [aq_]; rfl) ?_
   refine pup_ (i := 5) (N := some 22) HT_ rfl rfl (by kernel_rfl) (fun _ _ _ h => h) (Or.inl ⟨by rfl, by intro w'; go_simp; with_reducible rfl⟩) (by simp only [aq_]; rfl) ?_
   refine pup_ (i := 6) (N := some 23) HT_ rfl rfl (by kernel_rfl) (fun _ _ _ h => h) (Or.inl ⟨by rfl, by intro w'; go_simp; with_reducible rfl⟩) (by simp only [aq_]; rfl) ?_
   refine take_ (i := 3) (N := some 20) (v := ?_) (a' := ?_) q11_7 rfl rfl (take_ofW HT_.out HW_.out (by kernel_rfl)) (fun _ _ _ h => h) (Or.inl ⟨by rfl, ?_⟩) hHeld ?_ ?_
   rotate_left
   ·rintro w' ⟨s0, s1, s2, s3⟩
    go_simp
    with_reducible rfl
   rotate_left
   ·simp only [aq_]
    rfl
   refine take_ (i := 7) (N := some 24) (v := ?_) (a' := ?_) q11_8 rfl rfl (take_ofW HT_.out HW_.out (by kernel_rfl)) (fun _ _ _ h => h) (Or.inl ⟨by rfl, ?_⟩) hHeld ?_ ?_
   rotate_left
   ·rintro w' ⟨s0, s1, s2, s3⟩
    go_simp
    with_reducible rfl
   rotate_left
   ·simp only [aq_]
    rfl
   refine one_ (i := 8) (N := some 25) q11_9 rfl rfl (one_of HT_.out (by kernel_rfl)) (by decide) (fun K hK => ?_)
   refine goes_ Try.func21 (by kernel_rfl) rfl #[.agg #[.int .i64 ((rd_T43 l0 x5_1).f0), .int .i64 ((rd_T43 l0 x5_1).f1)], .agg #[.int .i64 ((rd_T43 l1 x5_1).f0), .int .i64 ((rd_T43 l1 x5_1).f1)]] (by rfl) rfl rfl (by (try simp only [mA_]); first | done | rfl | (simp only [List.length_drop, List.length_take]; rfl)) ?_
   with_reducible refine (laws_eqIntA2.calls ((rd_T43 l0 x5_1).f0) ((rd_T43 l0 x5_1).f1) ((rd_T43 l1 x5_1).f0) ((rd_T43 l1 x5_1).f1) true _ A7.out).mono ?_
   rintro e w10 ⟨rfl, hb⟩
   refine ⟨_, rfl, ?_⟩
   have n0_ := Aside0.mk (below_step (bw HB.out) hb)
   replace HB := n0_
   clear n0_
   (try clear hb)
   (try clear hb2)
   (try clear hk)
   (try clear hi)
   refine hK.out _ _ ⟨(bcl_ HB.out hw332_0 :), (bcl_ HB.out hw332_1 :), (bcl_ HB.out hw333_0 :), (bcl_ HB.out hw333_1 :)⟩ (fun hHeld => ?_)
   clear hK K
   refine norm_ (a' := ?_) ?_ ?_
   rotate_left
   ·show Act.put _ (some 25) _ = _
    simp only [aq_]
    rfl
   refine pup_ (i := 9) (N := some 26) HT_ rfl rfl (by kernel_rfl) (fun _ _ _ h => h) (Or.inl ⟨by rfl, by intro w'; go_simp; with_reducible rfl⟩) (by simp only [aq_]; rfl) ?_
   refine done_ (done_of HT_.out (by kernel_rfl)) ?_
   try go_wp2
   go_roundg k1
   case measure => have := HK1.out; omega
   case rel => exact ⟨(wrap64 (x5_1 + 1)), (by first | rfl | (simp; done) | (simp [*]; done)), H', ⟨by have := HK1.out; omega⟩, ⟨bw HB.out⟩⟩

end Go.Proofs.Ytdnphdbahhfcgaa.X
