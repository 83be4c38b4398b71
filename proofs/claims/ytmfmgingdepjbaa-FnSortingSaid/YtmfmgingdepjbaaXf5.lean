-- Written by a program of this session (wip/gen/xp.py, over the kit's printer). Not trusted: Lean checks it.
import Derived.Test.YtmfmgingdepjbaaX0
import Derived.Test.YtmfmgingdepjbaaXf29
import Derived.Test.YtmfmgingdepjbaaXf4
namespace Go.Proofs.Ytmfmgingdepjbaa.X
open Go.RowKit Go.Proofs.YtmfmgingdepjbaaW.PrintWords Go.Proofs.YtmfmgingdepjbaaW.PrintLast Go.Proofs.YtmfmgingdepjbaaW.PrintMore
attribute [local go_sem] max2_int min2_int max_two min_two max_three min_three max_four min_four   -- for this text's walks alone
set_option linter.unusedVariables false
set_option linter.unusedSimpArgs false

/-! ### spec_l3Gap: function 38 -/
abbrev q38_0 : Array Bool := ⟨rl_ [12] false⟩
abbrev q38_7 : Array Bool := ⟨rl_ [7, 5] true⟩
abbrev q38_8 : Array Bool := ⟨rl_ [8, 4] true⟩
abbrev q38_9 : Array Bool := ⟨rl_ [10, 2] true⟩
abbrev q38_10 : Array Bool := ⟨rl_ [9, 3] true⟩
abbrev q38_11 : Array Bool := ⟨rl_ [8, 1, 1, 2] true⟩
abbrev q38_12 : Array Bool := ⟨rl_ [11, 1] true⟩
abbrev q38_13 : Array Bool := ⟨rl_ [12] true⟩
def spec_l3Gap.f (l0 : List (S42)) (a1 : Int) (a2 : Int) (a3 : Int) : Option (Int) := if 0 ≤ a2 then (if a2 < (l0.length : Int) then (if 0 ≤ a3 then (if a3 < (l0.length : Int) then (if a1 = 1 then (some (wrap64 (((rd_T42 l0 a2).f2) - ((rd_T42 l0 a3).f2)))) else (if a1 = 2 then (some (wrap64 (((rd_T42 l0 a2).f0) - ((rd_T42 l0 a3).f0)))) else (if a1 = 3 then (some (wrap64 ((wrap64 (((rd_T42 l0 a2).f0) * ((rd_T42 l0 a3).f1))) - (wrap64 (((rd_T42 l0 a3).f0) * ((rd_T42 l0 a2).f1)))))) else (some (wrap64 (((rd_T42 l0 a2).f3) - ((rd_T42 l0 a3).f3))))))) else (none)) else (none)) else (none)) else (none)
def spec_l3Gap.T1 : Bool × List (List Nat × List Nat) := (true, [([], []), ([], []), ([0, 1], [0, 1]), ([2], [2]), ([], []), ([], []), ([4, 5], [4, 5]), ([6], [6]), ([], []), ([], []), ([8, 3, 0, 1, 2, 3, 8, 9], [3, 8]), ([9, 7, 10, 0, 1, 2, 3, 4, 5, 6, 7, 8, 9, 10], [7, 9])])
def spec_l3Gap.B1 : List Nat := [0, 0, 3, 7, 0, 0, 48, 112, 0, 0, 783, 2047]
theorem spec_l3Gap.tab1 : rtab .any (opsOf Try.f38 1) = spec_l3Gap.T1 := by kernel_rfl
theorem spec_l3Gap.bits1 : waitsOk spec_l3Gap.T1.2 spec_l3Gap.B1 = true := by kernel_rfl
set_option maxHeartbeats 8000000 in
set_option maxRecDepth 100000 in
theorem spec_l3Gap.calls (A0 : Option Addr) (c0 : Nat) (l0 : List (S42)) (a1 : Int) (a2 : Int) (a3 : Int) (r : Int) (w : World) (hr0 : Kd.C k42 w A0 l0.length l0) (hc0 : l0.length ≤ c0) (h : spec_l3Gap.f l0 a1 a2 a3 = some r) :
  Calls Try.prog 38 #[.slice A0 l0.length c0, .int .i64 a1, .int .i64 a2, .int .i64 a3] w fun e w' => e = .returned (.int .i64 r) ∧ Below w.heap.size w w' := by
 have hu42 := Try.underlying42
 have HR0 := Aside0.mk hr0
 have HC0 := Aside0.mk hc0
 clear hr0 hc0
 have HB := Aside0.mk (Below.refl w.heap.size w)
 have H : (if 0 ≤ a2 then (if a2 < (l0.length : Int) then (if 0 ≤ a3 then (if a3 < (l0.length : Int) then (if a1 = 1 then (some (wrap64 (((rd_T42 l0 a2).f2) - ((rd_T42 l0 a3).f2)))) else (if a1 = 2 then (some (wrap64 (((rd_T42 l0 a2).f0) - ((rd_T42 l0 a3).f0)))) else (if a1 = 3 then (some (wrap64 ((wrap64 (((rd_T42 l0 a2).f0) * ((rd_T42 l0 a3).f1))) - (wrap64 (((rd_T42 l0 a3).f0) * ((rd_T42 l0 a2).f1)))))) else (some (wrap64 (((rd_T42 l0 a2).f3) - ((rd_T42 l0 a3).f3))))))) else (none)) else (none)) else (none)) else (none)) = some r := h
 clear h
 by_cases c5 : 0 ≤ a2
 rotate_left
 ·rw [if_neg c5] at H
  exact absurd H (by simp)
 rw [if_pos c5] at H
 have c5b0 : decide (0 ≤ a2) = true := decide_eq_true c5
 clear c5
 by_cases c6 : a2 < (l0.length : Int)
 rotate_left
 ·rw [if_neg c6] at H
  exact absurd H (by simp)
 rw [if_pos c6] at H
 have c6b0 : decide (a2 < (l0.length : Int)) = true := decide_eq_true c6
 clear c6
 by_cases c7 : 0 ≤ a3
 rotate_left
 ·rw [if_neg c7] at H
  exact absurd H (by simp)
 rw [if_pos c7] at H
 have c7b0 : decide (0 ≤ a3) = true := decide_eq_true c7
 clear c7
 by_cases c8 : a3 < (l0.length : Int)
 rotate_left
 ·rw [if_neg c8] at H
  exact absurd H (by simp)
 rw [if_pos c8] at H
 have c8b0 : decide (a3 < (l0.length : Int)) = true := decide_eq_true c8
 clear c8
 by_cases c9 : a1 = 1
 ·rw [if_pos c9] at H
  have c9b0 : (a1 == 1) = true := beq_iff_eq.mpr c9
  have c9b1 : (a1 != 1) = false := bne_eq_false_iff_eq.mpr c9
  clear c9
  obtain rfl := Option.some.inj H
  go_enter Try.func38, Try.ntmps38
  try go_wp2
  have n0_ := Aside0.mk (below_drew1 HB.out)
  replace HB := n0_
  clear n0_
  have p284 : 0 ≤ (a2 : Int) := of_decide_eq_true (by first | (with_reducible assumption) | assumption)
  have q284 : a2 < (l0.length : Int) := of_decide_eq_true (by first | (with_reducible assumption) | assumption)
  obtain ⟨ad284, e284, hx284_0, hx284_1, hx284_2, hx284_3⟩ := at_T42 HR0.out a2 p284 q284
  have hw284_3 := hx284_3
  have hw284_2 := hx284_2
  have hw284_1 := hx284_1
  have hw284_0 := hx284_0
  cases e284
  replace hx284_0 := (HB.out.cell (World.block_lt_of_cell? w _ hx284_0)).trans hx284_0
  replace hx284_1 := (HB.out.cell (World.block_lt_of_cell? w _ hx284_1)).trans hx284_1
  replace hx284_2 := (HB.out.cell (World.block_lt_of_cell? w _ hx284_2)).trans hx284_2
  replace hx284_3 := (HB.out.cell (World.block_lt_of_cell? w _ hx284_3)).trans hx284_3
  replace p284 := eq_true p284
  replace q284 := eq_true q284
  have p285 : 0 ≤ (a3 : Int) := of_decide_eq_true (by first | (with_reducible assumption) | assumption)
  have q285 : a3 < (l0.length : Int) := of_decide_eq_true (by first | (with_reducible assumption) | assumption)
  obtain ⟨ad285, e285, hx285_0, hx285_1, hx285_2, hx285_3⟩ := at_T42 HR0.out a3 p285 q285
  have hw285_3 := hx285_3
  have hw285_2 := hx285_2
  have hw285_1 := hx285_1
  have hw285_0 := hx285_0
  obtain rfl : ad284 = ad285 := (by injection e285)
  replace hx285_0 := (HB.out.cell (World.block_lt_of_cell? w _ hx285_0)).trans hx285_0
  replace hx285_1 := (HB.out.cell (World.block_lt_of_cell? w _ hx285_1)).trans hx285_1
  replace hx285_2 := (HB.out.cell (World.block_lt_of_cell? w _ hx285_2)).trans hx285_2
  replace hx285_3 := (HB.out.cell (World.block_lt_of_cell? w _ hx285_3)).trans hx285_3
  replace p285 := eq_true p285
  replace q285 := eq_true q285
  refine start_ (n := 12) (S := fun w' => w'.cell? (ad284.add ((a2).toNat * 4)) = some (.int .i64 ((rd_T42 l0 a2).f0)) ∧ w'.cell? ⟨(ad284.add ((a2).toNat * 4)).block, (ad284.add ((a2).toNat * 4)).off + 1, none⟩ = some (.int .i64 ((rd_T42 l0 a2).f1)) ∧ w'.cell? ⟨(ad284.add ((a2).toNat * 4)).block, (ad284.add ((a2).toNat * 4)).off + 2, none⟩ = some (.int .i64 ((rd_T42 l0 a2).f2)) ∧ w'.cell? ⟨(ad284.add ((a2).toNat * 4)).block, (ad284.add ((a2).toNat * 4)).off + 3, none⟩ = some (.int .i64 ((rd_T42 l0 a2).f3)) ∧ w'.cell? (ad284.add ((a3).toNat * 4)) = some (.int .i64 ((rd_T42 l0 a3).f0)) ∧ w'.cell? ⟨(ad284.add ((a3).toNat * 4)).block, (ad284.add ((a3).toNat * 4)).off + 1, none⟩ = some (.int .i64 ((rd_T42 l0 a3).f1)) ∧ w'.cell? ⟨(ad284.add ((a3).toNat * 4)).block, (ad284.add ((a3).toNat * 4)).off + 2, none⟩ = some (.int .i64 ((rd_T42 l0 a3).f2)) ∧ w'.cell? ⟨(ad284.add ((a3).toNat * 4)).block, (ad284.add ((a3).toNat * 4)).off + 3, none⟩ = some (.int .i64 ((rd_T42 l0 a3).f3))) (ds := []) q38_0 (by kernel_rfl) rfl rfl ⟨(bcl_ HB.out hw284_0 :), (bcl_ HB.out hw284_1 :), (bcl_ HB.out hw284_2 :), (bcl_ HB.out hw284_3 :), (bcl_ HB.out hw285_0 :), (bcl_ HB.out hw285_1 :), (bcl_ HB.out hw285_2 :), (bcl_ HB.out hw285_3 :)⟩ (fun hHeld => ?_); refine with_tabW spec_l3Gap.tab1 spec_l3Gap.bits1 (fun HT_ HW_ => ?_)
  generalize w.drew = w10 at HB hx284_0 hx284_1 hx284_2 hx284_3 hx285_0 hx285_1 hx285_2 hx285_3 hHeld ⊢
  refine pw_ HT_ 0 (some 11) ?_
  refine pw_ HT_ 1 (some 12) ?_
  refine pw_ HT_ 2 (some 13) ?_
  refine pw_ HT_ 4 (some 15) ?_
  refine pw_ HT_ 5 (some 16) ?_
  refine pw_ HT_ 6 (some 17) ?_
  refine take_ (i := 3) (N := some 14) (v := ?_) (a' := ?_) q38_7 rfl rfl (take_ofW HT_.out HW_.out (by kernel_rfl)) (fun _ _ _ h => h) (Or.inl ⟨by rfl, ?_⟩) hHeld ?_ ?_
  rotate_left
  ·rintro w' ⟨s0, s1, s2, s3, s4, s5, s6, s7⟩
   go_simp
   with_reducible rfl
  rotate_left
  ·simp only [aq_]
   rfl
  refine take_ (i := 7) (N := some 18) (v := ?_) (a' := ?_) q38_8 rfl rfl (take_ofW HT_.out HW_.out (by kernel_rfl)) (fun _ _ _ h => h) (Or.inl ⟨by rfl, ?_⟩) hHeld ?_ ?_
  rotate_left
  ·rintro w' ⟨s0, s1, s2, s3, s4, s5, s6, s7⟩
   go_simp
   with_reducible rfl
  rotate_left
  ·simp only [aq_]
   rfl
  refine join_ (σ := Nat × Nat) 2 q38_9 (fun s_ => [(9, .pointer (some ⟨s_.1, 0, none⟩)), (10, .pointer (some ⟨s_.2, 0, none⟩))]) (fun s_ w' => (w'.cell? (ad284.add ((a2).toNat * 4)) = some (.int .i64 ((rd_T42 l0 a2).f0)) ∧ w'.cell? ⟨(ad284.add ((a2).toNat * 4)).block, (ad284.add ((a2).toNat * 4)).off + 1, none⟩ = some (.int .i64 ((rd_T42 l0 a2).f1)) ∧ w'.cell? ⟨(ad284.add ((a2).toNat * 4)).block, (ad284.add ((a2).toNat * 4)).off + 2, none⟩ = some (.int .i64 ((rd_T42 l0 a2).f2)) ∧ w'.cell? ⟨(ad284.add ((a2).toNat * 4)).block, (ad284.add ((a2).toNat * 4)).off + 3, none⟩ = some (.int .i64 ((rd_T42 l0 a2).f3)) ∧ w'.cell? (ad284.add ((a3).toNat * 4)) = some (.int .i64 ((rd_T42 l0 a3).f0)) ∧ w'.cell? ⟨(ad284.add ((a3).toNat * 4)).block, (ad284.add ((a3).toNat * 4)).off + 1, none⟩ = some (.int .i64 ((rd_T42 l0 a3).f1)) ∧ w'.cell? ⟨(ad284.add ((a3).toNat * 4)).block, (ad284.add ((a3).toNat * 4)).off + 2, none⟩ = some (.int .i64 ((rd_T42 l0 a3).f2)) ∧ w'.cell? ⟨(ad284.add ((a3).toNat * 4)).block, (ad284.add ((a3).toNat * 4)).off + 3, none⟩ = some (.int .i64 ((rd_T42 l0 a3).f3))) ∧ (w'.heap[s_.1]? = some (.cells #[.int .i64 0, .int .i64 0, .int .i64 0, .int .i64 0] 42 (0, 0))) ∧ (w'.heap[s_.2]? = some (.cells #[.int .i64 0, .int .i64 0, .int .i64 0, .int .i64 0] 42 (0, 0))) ∧ (w.heap.size ≤ s_.1) ∧ (w.heap.size ≤ s_.1) ∧ (s_.2 ≠ s_.1) ∧ (s_.1 ≠ s_.2) ∧ (w.heap.size ≤ s_.2) ∧ (w.heap.size ≤ s_.2) ∧ (Below w.heap.size w w')) ?_ ?_
  rotate_left
  ·intro hCont
   refine two_ (i := 8) (j := 9) (Ni := some 9) (Nj := some 10) q38_10 q38_11 rfl rfl rfl rfl (two_of HT_.out (by kernel_rfl)) (by decide) (by decide) (fun K hK => ?_) (fun K hK => ?_)
   ·skip
    refine box_step ?hg (N := 9) ?hd (cs := #[.int .i64 0, .int .i64 0, .int .i64 0, .int .i64 0]) (t := 42) ?hr ?_; (case hd => rfl); (case hg => rfl); (case hr => first | (go_simp; done) | (go_simp; rfl))
    intro gb286 hg w11 hbox hb
    have n0_ := Aside0.mk (below_step (bw HB.out) hb)
    have n1_ := Aside0.mk (hbox)
    have n2_ := ge_ hg HB.out
    have n3_ := ge_ hg HB.out
    replace HB := n0_
    have BK286 := n1_
    have GW286 := n2_
    have GE286 := n3_
    clear n0_ n1_ n2_ n3_
    clear hb hbox hg
    refine hK.out _ _ ⟨(bcl_ HB.out hw284_0 :), (bcl_ HB.out hw284_1 :), (bcl_ HB.out hw284_2 :), (bcl_ HB.out hw284_3 :), (bcl_ HB.out hw285_0 :), (bcl_ HB.out hw285_1 :), (bcl_ HB.out hw285_2 :), (bcl_ HB.out hw285_3 :)⟩ (fun hHeld => ?_)
    clear hK K
    refine norm_ (a' := ?_) ?_ ?_
    rotate_left
    ·show Act.put _ (some 9) _ = _
     simp only [aq_]
     rfl
    refine one_ (i := 9) (N := some 10) q38_9 rfl rfl (one_of HT_.out (by kernel_rfl)) (by decide) (fun K hK => ?_)
    refine box_step ?hg (N := 10) ?hd (cs := #[.int .i64 0, .int .i64 0, .int .i64 0, .int .i64 0]) (t := 42) ?hr ?_; (case hd => rfl); (case hg => rfl); (case hr => first | (go_simp; done) | (go_simp; rfl))
    intro gb287 hg w12 hbox hb
    have n0_ := Aside0.mk (blk_below (bs BK286.out) hb)
    have n1_ := Aside0.mk (below_step (by repeat (first | (with_reducible first | exact bw HB.out | refine bset ?_ | apply bA | apply bN | apply bD) | exact HB.out)) hb)
    have n2_ := Aside0.mk (hbox)
    have n3_ := Aside0.mk ((by rw [hg]; exact (below_size (by repeat (first | (with_reducible first | exact bw HB.out | refine bset ?_ | apply bA | apply bN | apply bD) | exact HB.out))) : w.heap.size ≤ gb287))
    have n4_ := Aside0.mk ((by rw [hg]; exact (below_size (by repeat (first | (with_reducible first | exact bw HB.out | refine bset ?_ | apply bA | apply bN | apply bD) | exact HB.out))) : w.heap.size ≤ gb287))
    have n5_ := ne_ hg BK286.out
    have n6_ := en_ hg BK286.out
    replace BK286 := n0_
    replace HB := n1_
    have BK287 := n2_
    have GW287 := n3_
    have GE287 := n4_
    have NB286_287 := n5_
    have NB287_286 := n6_
    clear n0_ n1_ n2_ n3_ n4_ n5_ n6_
    clear hb hbox hg
    refine hK.out _ _ ⟨(bcl_ HB.out hw284_0 :), (bcl_ HB.out hw284_1 :), (bcl_ HB.out hw284_2 :), (bcl_ HB.out hw284_3 :), (bcl_ HB.out hw285_0 :), (bcl_ HB.out hw285_1 :), (bcl_ HB.out hw285_2 :), (bcl_ HB.out hw285_3 :)⟩ (fun hHeld => ?_)
    clear hK K
    refine norm_ (a' := ?_) ?_ ?_
    rotate_left
    ·show Act.put _ (some 10) _ = _
     simp only [aq_]
     rfl
    exact norm_ (by simp only [putAll, Act.put, List.setIfInBounds_toArray, List.set_cons_zero, List.set_cons_succ]) (hCont (gb286, gb287) _ ⟨hHeld, (bs BK286.out), (bs BK287.out), GW286.out, GE286.out, NB287_286.out, NB286_287.out, GW287.out, GE287.out, (by repeat (first | (with_reducible first | exact bw HB.out | refine bset ?_ | apply bA | apply bN | apply bD) | exact HB.out))⟩)
   ·skip
    refine box_step ?hg (N := 10) ?hd (cs := #[.int .i64 0, .int .i64 0, .int .i64 0, .int .i64 0]) (t := 42) ?hr ?_; (case hd => rfl); (case hg => rfl); (case hr => first | (go_simp; done) | (go_simp; rfl))
    intro gb287 hg w11 hbox hb
    have n0_ := Aside0.mk (below_step (bw HB.out) hb)
    have n1_ := Aside0.mk (hbox)
    have n2_ := ge_ hg HB.out
    have n3_ := ge_ hg HB.out
    replace HB := n0_
    have BK287 := n1_
    have GW287 := n2_
    have GE287 := n3_
    clear n0_ n1_ n2_ n3_
    clear hb hbox hg
    refine hK.out _ _ ⟨(bcl_ HB.out hw284_0 :), (bcl_ HB.out hw284_1 :), (bcl_ HB.out hw284_2 :), (bcl_ HB.out hw284_3 :), (bcl_ HB.out hw285_0 :), (bcl_ HB.out hw285_1 :), (bcl_ HB.out hw285_2 :), (bcl_ HB.out hw285_3 :)⟩ (fun hHeld => ?_)
    clear hK K
    refine norm_ (a' := ?_) ?_ ?_
    rotate_left
    ·show Act.put _ (some 10) _ = _
     simp only [aq_]
     rfl
    refine one_ (i := 8) (N := some 9) q38_9 rfl rfl (one_of HT_.out (by kernel_rfl)) (by decide) (fun K hK => ?_)
    refine box_step ?hg (N := 9) ?hd (cs := #[.int .i64 0, .int .i64 0, .int .i64 0, .int .i64 0]) (t := 42) ?hr ?_; (case hd => rfl); (case hg => rfl); (case hr => first | (go_simp; done) | (go_simp; rfl))
    intro gb286 hg w12 hbox hb
    have n0_ := Aside0.mk (blk_below (bs BK287.out) hb)
    have n1_ := Aside0.mk (below_step (by repeat (first | (with_reducible first | exact bw HB.out | refine bset ?_ | apply bA | apply bN | apply bD) | exact HB.out)) hb)
    have n2_ := Aside0.mk (hbox)
    have n3_ := Aside0.mk ((by rw [hg]; exact (below_size (by repeat (first | (with_reducible first | exact bw HB.out | refine bset ?_ | apply bA | apply bN | apply bD) | exact HB.out))) : w.heap.size ≤ gb286))
    have n4_ := Aside0.mk ((by rw [hg]; exact (below_size (by repeat (first | (with_reducible first | exact bw HB.out | refine bset ?_ | apply bA | apply bN | apply bD) | exact HB.out))) : w.heap.size ≤ gb286))
    have n5_ := ne_ hg BK287.out
    have n6_ := en_ hg BK287.out
    replace BK287 := n0_
    replace HB := n1_
    have BK286 := n2_
    have GW286 := n3_
    have GE286 := n4_
    have NB287_286 := n5_
    have NB286_287 := n6_
    clear n0_ n1_ n2_ n3_ n4_ n5_ n6_
    clear hb hbox hg
    refine hK.out _ _ ⟨(bcl_ HB.out hw284_0 :), (bcl_ HB.out hw284_1 :), (bcl_ HB.out hw284_2 :), (bcl_ HB.out hw284_3 :), (bcl_ HB.out hw285_0 :), (bcl_ HB.out hw285_1 :), (bcl_ HB.out hw285_2 :), (bcl_ HB.out hw285_3 :)⟩ (fun hHeld => ?_)
    clear hK K
    refine norm_ (a' := ?_) ?_ ?_
    rotate_left
    ·show Act.put _ (some 9) _ = _
     simp only [aq_]
     rfl
    exact norm_ (by simp only [putAll, Act.put, List.setIfInBounds_toArray, List.set_cons_zero, List.set_cons_succ]) (hCont (gb286, gb287) _ ⟨hHeld, (bs BK286.out), (bs BK287.out), GW286.out, GE286.out, NB287_286.out, NB286_287.out, GW287.out, GE287.out, (by repeat (first | (with_reducible first | exact bw HB.out | refine bset ?_ | apply bA | apply bN | apply bD) | exact HB.out))⟩)
  rintro ⟨gb286, gb287⟩ w13 ⟨hS_, h0_, h1_, h2_, h3_, h4_, h5_, h6_, h7_, h8_⟩
  have n0_ : Aside0 (w13.heap[gb286]? = some (.cells #[.int .i64 0, .int .i64 0, .int .i64 0, .int .i64 0] 42 (0, 0))) := ⟨h0_⟩
  have n1_ : Aside0 (w13.heap[gb287]? = some (.cells #[.int .i64 0, .int .i64 0, .int .i64 0, .int .i64 0] 42 (0, 0))) := ⟨h1_⟩
  have n2_ : Aside0 (w.heap.size ≤ gb286) := ⟨h2_⟩
  have n3_ : Aside0 (w.heap.size ≤ gb286) := ⟨h3_⟩
  have n4_ : Aside0 (gb287 ≠ gb286) := ⟨h4_⟩
  have n5_ : Aside0 (gb286 ≠ gb287) := ⟨h5_⟩
  have n6_ : Aside0 (w.heap.size ≤ gb287) := ⟨h6_⟩
  have n7_ : Aside0 (w.heap.size ≤ gb287) := ⟨h7_⟩
  have n8_ : Aside0 (Below w.heap.size w w13) := ⟨h8_⟩
  clear HB
  clear h0_ h1_ h2_ h3_ h4_ h5_ h6_ h7_ h8_
  have BK286 := n0_
  have BK287 := n1_
  have GW286 := n2_
  have GE286 := n3_
  have NB287_286 := n4_
  have NB286_287 := n5_
  have GW287 := n6_
  have GE287 := n7_
  have HB := n8_
  clear n0_ n1_ n2_ n3_ n4_ n5_ n6_ n7_ n8_
  have hHeld : w13.cell? (ad284.add ((a2).toNat * 4)) = some (.int .i64 ((rd_T42 l0 a2).f0)) ∧ w13.cell? ⟨(ad284.add ((a2).toNat * 4)).block, (ad284.add ((a2).toNat * 4)).off + 1, none⟩ = some (.int .i64 ((rd_T42 l0 a2).f1)) ∧ w13.cell? ⟨(ad284.add ((a2).toNat * 4)).block, (ad284.add ((a2).toNat * 4)).off + 2, none⟩ = some (.int .i64 ((rd_T42 l0 a2).f2)) ∧ w13.cell? ⟨(ad284.add ((a2).toNat * 4)).block, (ad284.add ((a2).toNat * 4)).off + 3, none⟩ = some (.int .i64 ((rd_T42 l0 a2).f3)) ∧ w13.cell? (ad284.add ((a3).toNat * 4)) = some (.int .i64 ((rd_T42 l0 a3).f0)) ∧ w13.cell? ⟨(ad284.add ((a3).toNat * 4)).block, (ad284.add ((a3).toNat * 4)).off + 1, none⟩ = some (.int .i64 ((rd_T42 l0 a3).f1)) ∧ w13.cell? ⟨(ad284.add ((a3).toNat * 4)).block, (ad284.add ((a3).toNat * 4)).off + 2, none⟩ = some (.int .i64 ((rd_T42 l0 a3).f2)) ∧ w13.cell? ⟨(ad284.add ((a3).toNat * 4)).block, (ad284.add ((a3).toNat * 4)).off + 3, none⟩ = some (.int .i64 ((rd_T42 l0 a3).f3)) := hS_
  refine norm_ (a' := ?_) ?_ ?_
  rotate_left
  ·simp only [putAll, Act.put, List.setIfInBounds_toArray, List.set_cons_zero, List.set_cons_succ]
   rfl
  refine one_ (i := 10) (N := none) q38_12 rfl rfl (one_of HT_.out (by kernel_rfl)) (by decide) (fun K hK => ?_)
  have hs14 : w13.cell? ⟨gb286, 0, none⟩ = some (.int .i64 0) := (blk_cell BK286.out 0).trans rfl
  have hfs14 := blk_frozen BK286.out 0
  have hns14_1 := NB287_286.out
  have hms14_1 := NB286_287.out
  have hs15 : w13.cell? ⟨gb286, 1, none⟩ = some (.int .i64 0) := (blk_cell BK286.out 1).trans rfl
  have hfs15 := blk_frozen BK286.out 1
  have hns15_1 := NB287_286.out
  have hms15_1 := NB286_287.out
  have hs16 : w13.cell? ⟨gb286, 2, none⟩ = some (.int .i64 0) := (blk_cell BK286.out 2).trans rfl
  have hfs16 := blk_frozen BK286.out 2
  have hns16_1 := NB287_286.out
  have hms16_1 := NB286_287.out
  have hs17 : w13.cell? ⟨gb286, 3, none⟩ = some (.int .i64 0) := (blk_cell BK286.out 3).trans rfl
  have hfs17 := blk_frozen BK286.out 3
  have hns17_1 := NB287_286.out
  have hms17_1 := NB286_287.out
  refine skip_ (w1 := ?_) (by rfl) rfl ?_ ?_
  rotate_left
  ·go_simp
   rfl
  refine hK.out _ _ ⟨((cell_far (p := ⟨gb286, _, none⟩) (bne_ hw284_0 GW286.out) _).trans (((cell_far (p := ⟨gb286, _, none⟩) (bne_ hw284_0 GW286.out) _).trans (((cell_far (p := ⟨gb286, _, none⟩) (bne_ hw284_0 GW286.out) _).trans (((cell_far (p := ⟨gb286, _, none⟩) (bne_ hw284_0 GW286.out) _).trans (hHeld.1)))))))), ((cell_far (p := ⟨gb286, _, none⟩) (bne_ hw284_1 GW286.out) _).trans (((cell_far (p := ⟨gb286, _, none⟩) (bne_ hw284_1 GW286.out) _).trans (((cell_far (p := ⟨gb286, _, none⟩) (bne_ hw284_1 GW286.out) _).trans (((cell_far (p := ⟨gb286, _, none⟩) (bne_ hw284_1 GW286.out) _).trans (hHeld.2.1)))))))), ((cell_far (p := ⟨gb286, _, none⟩) (bne_ hw284_2 GW286.out) _).trans (((cell_far (p := ⟨gb286, _, none⟩) (bne_ hw284_2 GW286.out) _).trans (((cell_far (p := ⟨gb286, _, none⟩) (bne_ hw284_2 GW286.out) _).trans (((cell_far (p := ⟨gb286, _, none⟩) (bne_ hw284_2 GW286.out) _).trans (hHeld.2.2.1)))))))), ((cell_far (p := ⟨gb286, _, none⟩) (bne_ hw284_3 GW286.out) _).trans (((cell_far (p := ⟨gb286, _, none⟩) (bne_ hw284_3 GW286.out) _).trans (((cell_far (p := ⟨gb286, _, none⟩) (bne_ hw284_3 GW286.out) _).trans (((cell_far (p := ⟨gb286, _, none⟩) (bne_ hw284_3 GW286.out) _).trans (hHeld.2.2.2.1)))))))), ((cell_far (p := ⟨gb286, _, none⟩) (bne_ hw285_0 GW286.out) _).trans (((cell_far (p := ⟨gb286, _, none⟩) (bne_ hw285_0 GW286.out) _).trans (((cell_far (p := ⟨gb286, _, none⟩) (bne_ hw285_0 GW286.out) _).trans (((cell_far (p := ⟨gb286, _, none⟩) (bne_ hw285_0 GW286.out) _).trans (hHeld.2.2.2.2.1)))))))), ((cell_far (p := ⟨gb286, _, none⟩) (bne_ hw285_1 GW286.out) _).trans (((cell_far (p := ⟨gb286, _, none⟩) (bne_ hw285_1 GW286.out) _).trans (((cell_far (p := ⟨gb286, _, none⟩) (bne_ hw285_1 GW286.out) _).trans (((cell_far (p := ⟨gb286, _, none⟩) (bne_ hw285_1 GW286.out) _).trans (hHeld.2.2.2.2.2.1)))))))), ((cell_far (p := ⟨gb286, _, none⟩) (bne_ hw285_2 GW286.out) _).trans (((cell_far (p := ⟨gb286, _, none⟩) (bne_ hw285_2 GW286.out) _).trans (((cell_far (p := ⟨gb286, _, none⟩) (bne_ hw285_2 GW286.out) _).trans (((cell_far (p := ⟨gb286, _, none⟩) (bne_ hw285_2 GW286.out) _).trans (hHeld.2.2.2.2.2.2.1)))))))), ((cell_far (p := ⟨gb286, _, none⟩) (bne_ hw285_3 GW286.out) _).trans (((cell_far (p := ⟨gb286, _, none⟩) (bne_ hw285_3 GW286.out) _).trans (((cell_far (p := ⟨gb286, _, none⟩) (bne_ hw285_3 GW286.out) _).trans (((cell_far (p := ⟨gb286, _, none⟩) (bne_ hw285_3 GW286.out) _).trans (hHeld.2.2.2.2.2.2.2))))))))⟩ (fun hHeld => ?_)
  clear hK K
  refine one_ (i := 11) (N := none) q38_13 rfl rfl (one_of HT_.out (by kernel_rfl)) (by decide) (fun K hK => ?_)
  have hs18 : w13.cell? ⟨gb287, 0, none⟩ = some (.int .i64 0) := (blk_cell BK287.out 0).trans rfl
  have hfs18 := blk_frozen BK287.out 0
  have hns18_0 := NB286_287.out
  have hms18_0 := NB287_286.out
  have hs19 : w13.cell? ⟨gb287, 1, none⟩ = some (.int .i64 0) := (blk_cell BK287.out 1).trans rfl
  have hfs19 := blk_frozen BK287.out 1
  have hns19_0 := NB286_287.out
  have hms19_0 := NB287_286.out
  have hs20 : w13.cell? ⟨gb287, 2, none⟩ = some (.int .i64 0) := (blk_cell BK287.out 2).trans rfl
  have hfs20 := blk_frozen BK287.out 2
  have hns20_0 := NB286_287.out
  have hms20_0 := NB287_286.out
  have hs21 : w13.cell? ⟨gb287, 3, none⟩ = some (.int .i64 0) := (blk_cell BK287.out 3).trans rfl
  have hfs21 := blk_frozen BK287.out 3
  have hns21_0 := NB286_287.out
  have hms21_0 := NB287_286.out
  refine skip_ (w1 := ?_) (by rfl) rfl ?_ ?_
  rotate_left
  ·go_simp
   rfl
  refine hK.out _ _ ⟨((cell_far (p := ⟨gb287, _, none⟩) (bne_ hw284_0 GW287.out) _).trans (((cell_far (p := ⟨gb287, _, none⟩) (bne_ hw284_0 GW287.out) _).trans (((cell_far (p := ⟨gb287, _, none⟩) (bne_ hw284_0 GW287.out) _).trans (((cell_far (p := ⟨gb287, _, none⟩) (bne_ hw284_0 GW287.out) _).trans (hHeld.1)))))))), ((cell_far (p := ⟨gb287, _, none⟩) (bne_ hw284_1 GW287.out) _).trans (((cell_far (p := ⟨gb287, _, none⟩) (bne_ hw284_1 GW287.out) _).trans (((cell_far (p := ⟨gb287, _, none⟩) (bne_ hw284_1 GW287.out) _).trans (((cell_far (p := ⟨gb287, _, none⟩) (bne_ hw284_1 GW287.out) _).trans (hHeld.2.1)))))))), ((cell_far (p := ⟨gb287, _, none⟩) (bne_ hw284_2 GW287.out) _).trans (((cell_far (p := ⟨gb287, _, none⟩) (bne_ hw284_2 GW287.out) _).trans (((cell_far (p := ⟨gb287, _, none⟩) (bne_ hw284_2 GW287.out) _).trans (((cell_far (p := ⟨gb287, _, none⟩) (bne_ hw284_2 GW287.out) _).trans (hHeld.2.2.1)))))))), ((cell_far (p := ⟨gb287, _, none⟩) (bne_ hw284_3 GW287.out) _).trans (((cell_far (p := ⟨gb287, _, none⟩) (bne_ hw284_3 GW287.out) _).trans (((cell_far (p := ⟨gb287, _, none⟩) (bne_ hw284_3 GW287.out) _).trans (((cell_far (p := ⟨gb287, _, none⟩) (bne_ hw284_3 GW287.out) _).trans (hHeld.2.2.2.1)))))))), ((cell_far (p := ⟨gb287, _, none⟩) (bne_ hw285_0 GW287.out) _).trans (((cell_far (p := ⟨gb287, _, none⟩) (bne_ hw285_0 GW287.out) _).trans (((cell_far (p := ⟨gb287, _, none⟩) (bne_ hw285_0 GW287.out) _).trans (((cell_far (p := ⟨gb287, _, none⟩) (bne_ hw285_0 GW287.out) _).trans (hHeld.2.2.2.2.1)))))))), ((cell_far (p := ⟨gb287, _, none⟩) (bne_ hw285_1 GW287.out) _).trans (((cell_far (p := ⟨gb287, _, none⟩) (bne_ hw285_1 GW287.out) _).trans (((cell_far (p := ⟨gb287, _, none⟩) (bne_ hw285_1 GW287.out) _).trans (((cell_far (p := ⟨gb287, _, none⟩) (bne_ hw285_1 GW287.out) _).trans (hHeld.2.2.2.2.2.1)))))))), ((cell_far (p := ⟨gb287, _, none⟩) (bne_ hw285_2 GW287.out) _).trans (((cell_far (p := ⟨gb287, _, none⟩) (bne_ hw285_2 GW287.out) _).trans (((cell_far (p := ⟨gb287, _, none⟩) (bne_ hw285_2 GW287.out) _).trans (((cell_far (p := ⟨gb287, _, none⟩) (bne_ hw285_2 GW287.out) _).trans (hHeld.2.2.2.2.2.2.1)))))))), ((cell_far (p := ⟨gb287, _, none⟩) (bne_ hw285_3 GW287.out) _).trans (((cell_far (p := ⟨gb287, _, none⟩) (bne_ hw285_3 GW287.out) _).trans (((cell_far (p := ⟨gb287, _, none⟩) (bne_ hw285_3 GW287.out) _).trans (((cell_far (p := ⟨gb287, _, none⟩) (bne_ hw285_3 GW287.out) _).trans (hHeld.2.2.2.2.2.2.2))))))))⟩ (fun hHeld => ?_)
  clear hK K
  refine done_ (done_of HT_.out (by kernel_rfl)) ?_
  have hnb22 := NB286_287.out
  have hnc22 := NB287_286.out
  obtain ⟨hcz23_0, hcz23_1, hcz23_2, hcz23_3, hfz23_0, hfz23_1, hfz23_2, hfz23_3⟩ := bz4 BK286.out
  obtain ⟨hcz24_0, hcz24_1, hcz24_2, hcz24_3, hfz24_0, hfz24_1, hfz24_2, hfz24_3⟩ := bz4 BK287.out
  try go_wp2
  go_ret
  exact ⟨by first | rfl | (simp [errW_none, errW_some] <;> rfl) | (simp [*, errW_none, errW_some] <;> rfl), by repeat (first | (with_reducible first | exact bw HB.out | refine bset ?_ | apply bA | apply bN | apply bD) | exact HB.out)⟩
 rw [if_neg c9] at H
 have c9b0 : (a1 == 1) = false := beq_eq_false_iff_ne.mpr c9
 have c9b1 : (a1 != 1) = true := bne_iff_ne.mpr c9
 by_cases c25 : a1 = 2
 ·rw [if_pos c25] at H
  have c25b0 : (a1 == 2) = true := beq_iff_eq.mpr c25
  have c25b1 : (a1 != 2) = false := bne_eq_false_iff_eq.mpr c25
  clear c25
  obtain rfl := Option.some.inj H
  go_enter Try.func38, Try.ntmps38
  try go_wp2
  have n0_ := Aside0.mk (below_drew1 HB.out)
  replace HB := n0_
  clear n0_
  have p284 : 0 ≤ (a2 : Int) := of_decide_eq_true (by first | (with_reducible assumption) | assumption)
  have q284 : a2 < (l0.length : Int) := of_decide_eq_true (by first | (with_reducible assumption) | assumption)
  obtain ⟨ad284, e284, hx284_0, hx284_1, hx284_2, hx284_3⟩ := at_T42 HR0.out a2 p284 q284
  have hw284_3 := hx284_3
  have hw284_2 := hx284_2
  have hw284_1 := hx284_1
  have hw284_0 := hx284_0
  cases e284
  replace hx284_0 := (HB.out.cell (World.block_lt_of_cell? w _ hx284_0)).trans hx284_0
  replace hx284_1 := (HB.out.cell (World.block_lt_of_cell? w _ hx284_1)).trans hx284_1
  replace hx284_2 := (HB.out.cell (World.block_lt_of_cell? w _ hx284_2)).trans hx284_2
  replace hx284_3 := (HB.out.cell (World.block_lt_of_cell? w _ hx284_3)).trans hx284_3
  replace p284 := eq_true p284
  replace q284 := eq_true q284
  have p285 : 0 ≤ (a3 : Int) := of_decide_eq_true (by first | (with_reducible assumption) | assumption)
  have q285 : a3 < (l0.length : Int) := of_decide_eq_true (by first | (with_reducible assumption) | assumption)
  obtain ⟨ad285, e285, hx285_0, hx285_1, hx285_2, hx285_3⟩ := at_T42 HR0.out a3 p285 q285
  have hw285_3 := hx285_3
  have hw285_2 := hx285_2
  have hw285_1 := hx285_1
  have hw285_0 := hx285_0
  obtain rfl : ad284 = ad285 := (by injection e285)
  replace hx285_0 := (HB.out.cell (World.block_lt_of_cell? w _ hx285_0)).trans hx285_0
  replace hx285_1 := (HB.out.cell (World.block_lt_of_cell? w _ hx285_1)).trans hx285_1
  replace hx285_2 := (HB.out.cell (World.block_lt_of_cell? w _ hx285_2)).trans hx285_2
  replace hx285_3 := (HB.out.cell (World.block_lt_of_cell? w _ hx285_3)).trans hx285_3
  replace p285 := eq_true p285
  replace q285 := eq_true q285
  refine start_ (n := 12) (S := fun w' => w'.cell? (ad284.add ((a2).toNat * 4)) = some (.int .i64 ((rd_T42 l0 a2).f0)) ∧ w'.cell? ⟨(ad284.add ((a2).toNat * 4)).block, (ad284.add ((a2).toNat * 4)).off + 1, none⟩ = some (.int .i64 ((rd_T42 l0 a2).f1)) ∧ w'.cell? ⟨(ad284.add ((a2).toNat * 4)).block, (ad284.add ((a2).toNat * 4)).off + 2, none⟩ = some (.int .i64 ((rd_T42 l0 a2).f2)) ∧ w'.cell? ⟨(ad284.add ((a2).toNat * 4)).block, (ad284.add ((a2).toNat * 4)).off + 3, none⟩ = some (.int .i64 ((rd_T42 l0 a2).f3)) ∧ w'.cell? (ad284.add ((a3).toNat * 4)) = some (.int .i64 ((rd_T42 l0 a3).f0)) ∧ w'.cell? ⟨(ad284.add ((a3).toNat * 4)).block, (ad284.add ((a3).toNat * 4)).off + 1, none⟩ = some (.int .i64 ((rd_T42 l0 a3).f1)) ∧ w'.cell? ⟨(ad284.add ((a3).toNat * 4)).block, (ad284.add ((a3).toNat * 4)).off + 2, none⟩ = some (.int .i64 ((rd_T42 l0 a3).f2)) ∧ w'.cell? ⟨(ad284.add ((a3).toNat * 4)).block, (ad284.add ((a3).toNat * 4)).off + 3, none⟩ = some (.int .i64 ((rd_T42 l0 a3).f3))) (ds := []) q38_0 (by kernel_rfl) rfl rfl ⟨(bcl_ HB.out hw284_0 :), (bcl_ HB.out hw284_1 :), (bcl_ HB.out hw284_2 :), (bcl_ HB.out hw284_3 :), (bcl_ HB.out hw285_0 :), (bcl_ HB.out hw285_1 :), (bcl_ HB.out hw285_2 :), (bcl_ HB.out hw285_3 :)⟩ (fun hHeld => ?_); refine with_tabW spec_l3Gap.tab1 spec_l3Gap.bits1 (fun HT_ HW_ => ?_)
  generalize w.drew = w26 at HB hx284_0 hx284_1 hx284_2 hx284_3 hx285_0 hx285_1 hx285_2 hx285_3 hHeld ⊢
  refine pw_ HT_ 0 (some 11) ?_
  refine pw_ HT_ 1 (some 12) ?_
  refine pw_ HT_ 2 (some 13) ?_
  refine pw_ HT_ 4 (some 15) ?_
  refine pw_ HT_ 5 (some 16) ?_
  refine pw_ HT_ 6 (some 17) ?_
  refine take_ (i := 3) (N := some 14) (v := ?_) (a' := ?_) q38_7 rfl rfl (take_ofW HT_.out HW_.out (by kernel_rfl)) (fun _ _ _ h => h) (Or.inl ⟨by rfl, ?_⟩) hHeld ?_ ?_
  rotate_left
  ·rintro w' ⟨s0, s1, s2, s3, s4, s5, s6, s7⟩
   go_simp
   with_reducible rfl
  rotate_left
  ·simp only [aq_]
   rfl
  refine take_ (i := 7) (N := some 18) (v := ?_) (a' := ?_) q38_8 rfl rfl (take_ofW HT_.out HW_.out (by kernel_rfl)) (fun _ _ _ h => h) (Or.inl ⟨by rfl, ?_⟩) hHeld ?_ ?_
  rotate_left
  ·rintro w' ⟨s0, s1, s2, s3, s4, s5, s6, s7⟩
   go_simp
   with_reducible rfl
  rotate_left
  ·simp only [aq_]
   rfl
  refine join_ (σ := Nat × Nat) 2 q38_9 (fun s_ => [(9, .pointer (some ⟨s_.1, 0, none⟩)), (10, .pointer (some ⟨s_.2, 0, none⟩))]) (fun s_ w' => (w'.cell? (ad284.add ((a2).toNat * 4)) = some (.int .i64 ((rd_T42 l0 a2).f0)) ∧ w'.cell? ⟨(ad284.add ((a2).toNat * 4)).block, (ad284.add ((a2).toNat * 4)).off + 1, none⟩ = some (.int .i64 ((rd_T42 l0 a2).f1)) ∧ w'.cell? ⟨(ad284.add ((a2).toNat * 4)).block, (ad284.add ((a2).toNat * 4)).off + 2, none⟩ = some (.int .i64 ((rd_T42 l0 a2).f2)) ∧ w'.cell? ⟨(ad284.add ((a2).toNat * 4)).block, (ad284.add ((a2).toNat * 4)).off + 3, none⟩ = some (.int .i64 ((rd_T42 l0 a2).f3)) ∧ w'.cell? (ad284.add ((a3).toNat * 4)) = some (.int .i64 ((rd_T42 l0 a3).f0)) ∧ w'.cell? ⟨(ad284.add ((a3).toNat * 4)).block, (ad284.add ((a3).toNat * 4)).off + 1, none⟩ = some (.int .i64 ((rd_T42 l0 a3).f1)) ∧ w'.cell? ⟨(ad284.add ((a3).toNat * 4)).block, (ad284.add ((a3).toNat * 4)).off + 2, none⟩ = some (.int .i64 ((rd_T42 l0 a3).f2)) ∧ w'.cell? ⟨(ad284.add ((a3).toNat * 4)).block, (ad284.add ((a3).toNat * 4)).off + 3, none⟩ = some (.int .i64 ((rd_T42 l0 a3).f3))) ∧ (w'.heap[s_.1]? = some (.cells #[.int .i64 0, .int .i64 0, .int .i64 0, .int .i64 0] 42 (0, 0))) ∧ (w'.heap[s_.2]? = some (.cells #[.int .i64 0, .int .i64 0, .int .i64 0, .int .i64 0] 42 (0, 0))) ∧ (w.heap.size ≤ s_.1) ∧ (w.heap.size ≤ s_.1) ∧ (s_.2 ≠ s_.1) ∧ (s_.1 ≠ s_.2) ∧ (w.heap.size ≤ s_.2) ∧ (w.heap.size ≤ s_.2) ∧ (Below w.heap.size w w')) ?_ ?_
  rotate_left
  ·intro hCont
   refine two_ (i := 8) (j := 9) (Ni := some 9) (Nj := some 10) q38_10 q38_11 rfl rfl rfl rfl (two_of HT_.out (by kernel_rfl)) (by decide) (by decide) (fun K hK => ?_) (fun K hK => ?_)
   ·skip
    refine box_step ?hg (N := 9) ?hd (cs := #[.int .i64 0, .int .i64 0, .int .i64 0, .int .i64 0]) (t := 42) ?hr ?_; (case hd => rfl); (case hg => rfl); (case hr => first | (go_simp; done) | (go_simp; rfl))
    intro gb286 hg w27 hbox hb
    have n0_ := Aside0.mk (below_step (bw HB.out) hb)
    have n1_ := Aside0.mk (hbox)
    have n2_ := ge_ hg HB.out
    have n3_ := ge_ hg HB.out
    replace HB := n0_
    have BK286 := n1_
    have GW286 := n2_
    have GE286 := n3_
    clear n0_ n1_ n2_ n3_
    clear hb hbox hg
    refine hK.out _ _ ⟨(bcl_ HB.out hw284_0 :), (bcl_ HB.out hw284_1 :), (bcl_ HB.out hw284_2 :), (bcl_ HB.out hw284_3 :), (bcl_ HB.out hw285_0 :), (bcl_ HB.out hw285_1 :), (bcl_ HB.out hw285_2 :), (bcl_ HB.out hw285_3 :)⟩ (fun hHeld => ?_)
    clear hK K
    refine norm_ (a' := ?_) ?_ ?_
    rotate_left
    ·show Act.put _ (some 9) _ = _
     simp only [aq_]
     rfl
    refine one_ (i := 9) (N := some 10) q38_9 rfl rfl (one_of HT_.out (by kernel_rfl)) (by decide) (fun K hK => ?_)
    refine box_step ?hg (N := 10) ?hd (cs := #[.int .i64 0, .int .i64 0, .int .i64 0, .int .i64 0]) (t := 42) ?hr ?_; (case hd => rfl); (case hg => rfl); (case hr => first | (go_simp; done) | (go_simp; rfl))
    intro gb287 hg w28 hbox hb
    have n0_ := Aside0.mk (blk_below (bs BK286.out) hb)
    have n1_ := Aside0.mk (below_step (by repeat (first | (with_reducible first | exact bw HB.out | refine bset ?_ | apply bA | apply bN | apply bD) | exact HB.out)) hb)
    have n2_ := Aside0.mk (hbox)
    have n3_ := Aside0.mk ((by rw [hg]; exact (below_size (by repeat (first | (with_reducible first | exact bw HB.out | refine bset ?_ | apply bA | apply bN | apply bD) | exact HB.out))) : w.heap.size ≤ gb287))
    have n4_ := Aside0.mk ((by rw [hg]; exact (below_size (by repeat (first | (with_reducible first | exact bw HB.out | refine bset ?_ | apply bA | apply bN | apply bD) | exact HB.out))) : w.heap.size ≤ gb287))
    have n5_ := ne_ hg BK286.out
    have n6_ := en_ hg BK286.out
    replace BK286 := n0_
    replace HB := n1_
    have BK287 := n2_
    have GW287 := n3_
    have GE287 := n4_
    have NB286_287 := n5_
    have NB287_286 := n6_
    clear n0_ n1_ n2_ n3_ n4_ n5_ n6_
    clear hb hbox hg
    refine hK.out _ _ ⟨(bcl_ HB.out hw284_0 :), (bcl_ HB.out hw284_1 :), (bcl_ HB.out hw284_2 :), (bcl_ HB.out hw284_3 :), (bcl_ HB.out hw285_0 :), (bcl_ HB.out hw285_1 :), (bcl_ HB.out hw285_2 :), (bcl_ HB.out hw285_3 :)⟩ (fun hHeld => ?_)
    clear hK K
    refine norm_ (a' := ?_) ?_ ?_
    rotate_left
    ·show Act.put _ (some 10) _ = _
     simp only [aq_]
     rfl
    exact norm_ (by simp only [putAll, Act.put, List.setIfInBounds_toArray, List.set_cons_zero, List.set_cons_succ]) (hCont (gb286, gb287) _ ⟨hHeld, (bs BK286.out), (bs BK287.out), GW286.out, GE286.out, NB287_286.out, NB286_287.out, GW287.out, GE287.out, (by repeat (first | (with_reducible first | exact bw HB.out | refine bset ?_ | apply bA | apply bN | apply bD) | exact HB.out))⟩)
   ·skip
    refine box_step ?hg (N := 10) ?hd (cs := #[.int .i64 0, .int .i64 0, .int .i64 0, .int .i64 0]) (t := 42) ?hr ?_; (case hd => rfl); (case hg => rfl); (case hr => first | (go_simp; done) | (go_simp; rfl))
    intro gb287 hg w27 hbox hb
    have n0_ := Aside0.mk (below_step (bw HB.out) hb)
    have n1_ := Aside0.mk (hbox)
    have n2_ := ge_ hg HB.out
    have n3_ := ge_ hg HB.out
    replace HB := n0_
    have BK287 := n1_
    have GW287 := n2_
    have GE287 := n3_
    clear n0_ n1_ n2_ n3_
    clear hb hbox hg
    refine hK.out _ _ ⟨(bcl_ HB.out hw284_0 :), (bcl_ HB.out hw284_1 :), (bcl_ HB.out hw284_2 :), (bcl_ HB.out hw284_3 :), (bcl_ HB.out hw285_0 :), (bcl_ HB.out hw285_1 :), (bcl_ HB.out hw285_2 :), (bcl_ HB.out hw285_3 :)⟩ (fun hHeld => ?_)
    clear hK K
    refine norm_ (a' := ?_) ?_ ?_
    rotate_left
    ·show Act.put _ (some 10) _ = _
     simp only [aq_]
     rfl
    refine one_ (i := 8) (N := some 9) q38_9 rfl rfl (one_of HT_.out (by kernel_rfl)) (by decide) (fun K hK => ?_)
    refine box_step ?hg (N := 9) ?hd (cs := #[.int .i64 0, .int .i64 0, .int .i64 0, .int .i64 0]) (t := 42) ?hr ?_; (case hd => rfl); (case hg => rfl); (case hr => first | (go_simp; done) | (go_simp; rfl))
    intro gb286 hg w28 hbox hb
    have n0_ := Aside0.mk (blk_below (bs BK287.out) hb)
    have n1_ := Aside0.mk (below_step (by repeat (first | (with_reducible first | exact bw HB.out | refine bset ?_ | apply bA | apply bN | apply bD) | exact HB.out)) hb)
    have n2_ := Aside0.mk (hbox)
    have n3_ := Aside0.mk ((by rw [hg]; exact (below_size (by repeat (first | (with_reducible first | exact bw HB.out | refine bset ?_ | apply bA | apply bN | apply bD) | exact HB.out))) : w.heap.size ≤ gb286))
    have n4_ := Aside0.mk ((by rw [hg]; exact (below_size (by repeat (first | (with_reducible first | exact bw HB.out | refine bset ?_ | apply bA | apply bN | apply bD) | exact HB.out))) : w.heap.size ≤ gb286))
    have n5_ := ne_ hg BK287.out
    have n6_ := en_ hg BK287.out
    replace BK287 := n0_
    replace HB := n1_
    have BK286 := n2_
    have GW286 := n3_
    have GE286 := n4_
    have NB287_286 := n5_
    have NB286_287 := n6_
    clear n0_ n1_ n2_ n3_ n4_ n5_ n6_
    clear hb hbox hg
    refine hK.out _ _ ⟨(bcl_ HB.out hw284_0 :), (bcl_ HB.out hw284_1 :), (bcl_ HB.out hw284_2 :), (bcl_ HB.out hw284_3 :), (bcl_ HB.out hw285_0 :), (bcl_ HB.out hw285_1 :), (bcl_ HB.out hw285_2 :), (bcl_ HB.out hw285_3 :)⟩ (fun hHeld => ?_)
    clear hK K
    refine norm_ (a' := ?_) ?_ ?_
    rotate_left
    ·show Act.put _ (some 9) _ = _
     simp only [aq_]
     rfl
    exact norm_ (by simp only [putAll, Act.put, List.setIfInBounds_toArray, List.set_cons_zero, List.set_cons_succ]) (hCont (gb286, gb287) _ ⟨hHeld, (bs BK286.out), (bs BK287.out), GW286.out, GE286.out, NB287_286.out, NB286_287.out, GW287.out, GE287.out, (by repeat (first | (with_reducible first | exact bw HB.out | refine bset ?_ | apply bA | apply bN | apply bD) | exact HB.out))⟩)
  rintro ⟨gb286, gb287⟩ w29 ⟨hS_, h0_, h1_, h2_, h3_, h4_, h5_, h6_, h7_, h8_⟩
  have n0_ : Aside0 (w29.heap[gb286]? = some (.cells #[.int .i64 0, .int .i64 0, .int .i64 0, .int .i64 0] 42 (0, 0))) := ⟨h0_⟩
  have n1_ : Aside0 (w29.heap[gb287]? = some (.cells #[.int .i64 0, .int .i64 0, .int .i64 0, .int .i64 0] 42 (0, 0))) := ⟨h1_⟩
  have n2_ : Aside0 (w.heap.size ≤ gb286) := ⟨h2_⟩
  have n3_ : Aside0 (w.heap.size ≤ gb286) := ⟨h3_⟩
  have n4_ : Aside0 (gb287 ≠ gb286) := ⟨h4_⟩
  have n5_ : Aside0 (gb286 ≠ gb287) := ⟨h5_⟩
  have n6_ : Aside0 (w.heap.size ≤ gb287) := ⟨h6_⟩
  have n7_ : Aside0 (w.heap.size ≤ gb287) := ⟨h7_⟩
  have n8_ : Aside0 (Below w.heap.size w w29) := ⟨h8_⟩
  clear HB
  clear h0_ h1_ h2_ h3_ h4_ h5_ h6_ h7_ h8_
  have BK286 := n0_
  have BK287 := n1_
  have GW286 := n2_
  have GE286 := n3_
  have NB287_286 := n4_
  have NB286_287 := n5_
  have GW287 := n6_
  have GE287 := n7_
  have HB := n8_
  clear n0_ n1_ n2_ n3_ n4_ n5_ n6_ n7_ n8_
  have hHeld : w29.cell? (ad284.add ((a2).toNat * 4)) = some (.int .i64 ((rd_T42 l0 a2).f0)) ∧ w29.cell? ⟨(ad284.add ((a2).toNat * 4)).block, (ad284.add ((a2).toNat * 4)).off + 1, none⟩ = some (.int .i64 ((rd_T42 l0 a2).f1)) ∧ w29.cell? ⟨(ad284.add ((a2).toNat * 4)).block, (ad284.add ((a2).toNat * 4)).off + 2, none⟩ = some (.int .i64 ((rd_T42 l0 a2).f2)) ∧ w29.cell? ⟨(ad284.add ((a2).toNat * 4)).block, (ad284.add ((a2).toNat * 4)).off + 3, none⟩ = some (.int .i64 ((rd_T42 l0 a2).f3)) ∧ w29.cell? (ad284.add ((a3).toNat * 4)) = some (.int .i64 ((rd_T42 l0 a3).f0)) ∧ w29.cell? ⟨(ad284.add ((a3).toNat * 4)).block, (ad284.add ((a3).toNat * 4)).off + 1, none⟩ = some (.int .i64 ((rd_T42 l0 a3).f1)) ∧ w29.cell? ⟨(ad284.add ((a3).toNat * 4)).block, (ad284.add ((a3).toNat * 4)).off + 2, none⟩ = some (.int .i64 ((rd_T42 l0 a3).f2)) ∧ w29.cell? ⟨(ad284.add ((a3).toNat * 4)).block, (ad284.add ((a3).toNat * 4)).off + 3, none⟩ = some (.int .i64 ((rd_T42 l0 a3).f3)) := hS_
  refine norm_ (a' := ?_) ?_ ?_
  rotate_left
  ·simp only [putAll, Act.put, List.setIfInBounds_toArray, List.set_cons_zero, List.set_cons_succ]
   rfl
  refine one_ (i := 10) (N := none) q38_12 rfl rfl (one_of HT_.out (by kernel_rfl)) (by decide) (fun K hK => ?_)
  have hs30 : w29.cell? ⟨gb286, 0, none⟩ = some (.int .i64 0) := (blk_cell BK286.out 0).trans rfl
  have hfs30 := blk_frozen BK286.out 0
  have hns30_1 := NB287_286.out
  have hms30_1 := NB286_287.out
  have hs31 : w29.cell? ⟨gb286, 1, none⟩ = some (.int .i64 0) := (blk_cell BK286.out 1).trans rfl
  have hfs31 := blk_frozen BK286.out 1
  have hns31_1 := NB287_286.out
  have hms31_1 := NB286_287.out
  have hs32 : w29.cell? ⟨gb286, 2, none⟩ = some (.int .i64 0) := (blk_cell BK286.out 2).trans rfl
  have hfs32 := blk_frozen BK286.out 2
  have hns32_1 := NB287_286.out
  have hms32_1 := NB286_287.out
  have hs33 : w29.cell? ⟨gb286, 3, none⟩ = some (.int .i64 0) := (blk_cell BK286.out 3).trans rfl
  have hfs33 := blk_frozen BK286.out 3
  have hns33_1 := NB287_286.out
  have hms33_1 := NB286_287.out
  refine skip_ (w1 := ?_) (by rfl) rfl ?_ ?_
  rotate_left
  ·go_simp
   rfl
  refine hK.out _ _ ⟨((cell_far (p := ⟨gb286, _, none⟩) (bne_ hw284_0 GW286.out) _).trans (((cell_far (p := ⟨gb286, _, none⟩) (bne_ hw284_0 GW286.out) _).trans (((cell_far (p := ⟨gb286, _, none⟩) (bne_ hw284_0 GW286.out) _).trans (((cell_far (p := ⟨gb286, _, none⟩) (bne_ hw284_0 GW286.out) _).trans (hHeld.1)))))))), ((cell_far (p := ⟨gb286, _, none⟩) (bne_ hw284_1 GW286.out) _).trans (((cell_far (p := ⟨gb286, _, none⟩) (bne_ hw284_1 GW286.out) _).trans (((cell_far (p := ⟨gb286, _, none⟩) (bne_ hw284_1 GW286.out) _).trans (((cell_far (p := ⟨gb286, _, none⟩) (bne_ hw284_1 GW286.out) _).trans (hHeld.2.1)))))))), ((cell_far (p := ⟨gb286, _, none⟩) (bne_ hw284_2 GW286.out) _).trans (((cell_far (p := ⟨gb286, _, none⟩) (bne_ hw284_2 GW286.out) _).trans (((cell_far (p := ⟨gb286, _, none⟩) (bne_ hw284_2 GW286.out) _).trans (((cell_far (p := ⟨gb286, _, none⟩) (bne_ hw284_2 GW286.out) _).trans (hHeld.2.2.1)))))))), ((cell_far (p := ⟨gb286, _, none⟩) (bne_ hw284_3 GW286.out) _).trans (((cell_far (p := ⟨gb286, _, none⟩) (bne_ hw284_3 GW286.out) _).trans (((cell_far (p := ⟨gb286, _, none⟩) (bne_ hw284_3 GW286.out) _).trans (((cell_far (p := ⟨gb286, _, none⟩) (bne_ hw284_3 GW286.out) _).trans (hHeld.2.2.2.1)))))))), ((cell_far (p := ⟨gb286, _, none⟩) (bne_ hw285_0 GW286.out) _).trans (((cell_far (p := ⟨gb286, _, none⟩) (bne_ hw285_0 GW286.out) _).trans (((cell_far (p := ⟨gb286, _, none⟩) (bne_ hw285_0 GW286.out) _).trans (((cell_far (p := ⟨gb286, _, none⟩) (bne_ hw285_0 GW286.out) _).trans (hHeld.2.2.2.2.1)))))))), ((cell_far (p := ⟨gb286, _, none⟩) (bne_ hw285_1 GW286.out) _).trans (((cell_far (p := ⟨gb286, _, none⟩) (bne_ hw285_1 GW286.out) _).trans (((cell_far (p := ⟨gb286, _, none⟩) (bne_ hw285_1 GW286.out) _).trans (((cell_far (p := ⟨gb286, _, none⟩) (bne_ hw285_1 GW286.out) _).trans (hHeld.2.2.2.2.2.1)))))))), ((cell_far (p := ⟨gb286, _, none⟩) (bne_ hw285_2 GW286.out) _).trans (((cell_far (p := ⟨gb286, _, none⟩) (bne_ hw285_2 GW286.out) _).trans (((cell_far (p := ⟨gb286, _, none⟩) (bne_ hw285_2 GW286.out) _).trans (((cell_far (p := ⟨gb286, _, none⟩) (bne_ hw285_2 GW286.out) _).trans (hHeld.2.2.2.2.2.2.1)))))))), ((cell_far (p := ⟨gb286, _, none⟩) (bne_ hw285_3 GW286.out) _).trans (((cell_far (p := ⟨gb286, _, none⟩) (bne_ hw285_3 GW286.out) _).trans (((cell_far (p := ⟨gb286, _, none⟩) (bne_ hw285_3 GW286.out) _).trans (((cell_far (p := ⟨gb286, _, none⟩) (bne_ hw285_3 GW286.out) _).trans (hHeld.2.2.2.2.2.2.2))))))))⟩ (fun hHeld => ?_)
  clear hK K
  refine one_ (i := 11) (N := none) q38_13 rfl rfl (one_of HT_.out (by kernel_rfl)) (by decide) (fun K hK => ?_)
  have hs34 : w29.cell? ⟨gb287, 0, none⟩ = some (.int .i64 0) := (blk_cell BK287.out 0).trans rfl
  have hfs34 := blk_frozen BK287.out 0
  have hns34_0 := NB286_287.out
  have hms34_0 := NB287_286.out
  have hs35 : w29.cell? ⟨gb287, 1, none⟩ = some (.int .i64 0) := (blk_cell BK287.out 1).trans rfl
  have hfs35 := blk_frozen BK287.out 1
  have hns35_0 := NB286_287.out
  have hms35_0 := NB287_286.out
  have hs36 : w29.cell? ⟨gb287, 2, none⟩ = some (.int .i64 0) := (blk_cell BK287.out 2).trans rfl
  have hfs36 := blk_frozen BK287.out 2
  have hns36_0 := NB286_287.out
  have hms36_0 := NB287_286.out
  have hs37 : w29.cell? ⟨gb287, 3, none⟩ = some (.int .i64 0) := (blk_cell BK287.out 3).trans rfl
  have hfs37 := blk_frozen BK287.out 3
  have hns37_0 := NB286_287.out
  have hms37_0 := NB287_286.out
  refine skip_ (w1 := ?_) (by rfl) rfl ?_ ?_
  rotate_left
  ·go_simp
   rfl
  refine hK.out _ _ ⟨((cell_far (p := ⟨gb287, _, none⟩) (bne_ hw284_0 GW287.out) _).trans (((cell_far (p := ⟨gb287, _, none⟩) (bne_ hw284_0 GW287.out) _).trans (((cell_far (p := ⟨gb287, _, none⟩) (bne_ hw284_0 GW287.out) _).trans (((cell_far (p := ⟨gb287, _, none⟩) (bne_ hw284_0 GW287.out) _).trans (hHeld.1)))))))), ((cell_far (p := ⟨gb287, _, none⟩) (bne_ hw284_1 GW287.out) _).trans (((cell_far (p := ⟨gb287, _, none⟩) (bne_ hw284_1 GW287.out) _).trans (((cell_far (p := ⟨gb287, _, none⟩) (bne_ hw284_1 GW287.out) _).trans (((cell_far (p := ⟨gb287, _, none⟩) (bne_ hw284_1 GW287.out) _).trans (hHeld.2.1)))))))), ((cell_far (p := ⟨gb287, _, none⟩) (bne_ hw284_2 GW287.out) _).trans (((cell_far (p := ⟨gb287, _, none⟩) (bne_ hw284_2 GW287.out) _).trans (((cell_far (p := ⟨gb287, _, none⟩) (bne_ hw284_2 GW287.out) _).trans (((cell_far (p := ⟨gb287, _, none⟩) (bne_ hw284_2 GW287.out) _).trans (hHeld.2.2.1)))))))), ((cell_far (p := ⟨gb287, _, none⟩) (bne_ hw284_3 GW287.out) _).trans (((cell_far (p := ⟨gb287, _, none⟩) (bne_ hw284_3 GW287.out) _).trans (((cell_far (p := ⟨gb287, _, none⟩) (bne_ hw284_3 GW287.out) _).trans (((cell_far (p := ⟨gb287, _, none⟩) (bne_ hw284_3 GW287.out) _).trans (hHeld.2.2.2.1)))))))), ((cell_far (p := ⟨gb287, _, none⟩) (bne_ hw285_0 GW287.out) _).trans (((cell_far (p := ⟨gb287, _, none⟩) (bne_ hw285_0 GW287.out) _).trans (((cell_far (p := ⟨gb287, _, none⟩) (bne_ hw285_0 GW287.out) _).trans (((cell_far (p := ⟨gb287, _, none⟩) (bne_ hw285_0 GW287.out) _).trans (hHeld.2.2.2.2.1)))))))), ((cell_far (p := ⟨gb287, _, none⟩) (bne_ hw285_1 GW287.out) _).trans (((cell_far (p := ⟨gb287, _, none⟩) (bne_ hw285_1 GW287.out) _).trans (((cell_far (p := ⟨gb287, _, none⟩) (bne_ hw285_1 GW287.out) _).trans (((cell_far (p := ⟨gb287, _, none⟩) (bne_ hw285_1 GW287.out) _).trans (hHeld.2.2.2.2.2.1)))))))), ((cell_far (p := ⟨gb287, _, none⟩) (bne_ hw285_2 GW287.out) _).trans (((cell_far (p := ⟨gb287, _, none⟩) (bne_ hw285_2 GW287.out) _).trans (((cell_far (p := ⟨gb287, _, none⟩) (bne_ hw285_2 GW287.out) _).trans (((cell_far (p := ⟨gb287, _, none⟩) (bne_ hw285_2 GW287.out) _).trans (hHeld.2.2.2.2.2.2.1)))))))), ((cell_far (p := ⟨gb287, _, none⟩) (bne_ hw285_3 GW287.out) _).trans (((cell_far (p := ⟨gb287, _, none⟩) (bne_ hw285_3 GW287.out) _).trans (((cell_far (p := ⟨gb287, _, none⟩) (bne_ hw285_3 GW287.out) _).trans (((cell_far (p := ⟨gb287, _, none⟩) (bne_ hw285_3 GW287.out) _).trans (hHeld.2.2.2.2.2.2.2))))))))⟩ (fun hHeld => ?_)
  clear hK K
  refine done_ (done_of HT_.out (by kernel_rfl)) ?_
  have hnb38 := NB286_287.out
  have hnc38 := NB287_286.out
  obtain ⟨hcz39_0, hcz39_1, hcz39_2, hcz39_3, hfz39_0, hfz39_1, hfz39_2, hfz39_3⟩ := bz4 BK286.out
  obtain ⟨hcz40_0, hcz40_1, hcz40_2, hcz40_3, hfz40_0, hfz40_1, hfz40_2, hfz40_3⟩ := bz4 BK287.out
  try go_wp2
  go_ret
  exact ⟨by first | rfl | (simp [errW_none, errW_some] <;> rfl) | (simp [*, errW_none, errW_some] <;> rfl), by repeat (first | (with_reducible first | exact bw HB.out | refine bset ?_ | apply bA | apply bN | apply bD) | exact HB.out)⟩
 rw [if_neg c25] at H
 have c25b0 : (a1 == 2) = false := beq_eq_false_iff_ne.mpr c25
 have c25b1 : (a1 != 2) = true := bne_iff_ne.mpr c25
 by_cases c41 : a1 = 3
 rotate_left
 ·rw [if_neg c41] at H
  have c41b0 : (a1 == 3) = false := beq_eq_false_iff_ne.mpr c41
  have c41b1 : (a1 != 3) = true := bne_iff_ne.mpr c41
  obtain rfl := Option.some.inj H
  go_enter Try.func38, Try.ntmps38
  try go_wp2
  have n0_ := Aside0.mk (below_drew1 HB.out)
  replace HB := n0_
  clear n0_
  have p284 : 0 ≤ (a2 : Int) := of_decide_eq_true (by first | (with_reducible assumption) | assumption)
  have q284 : a2 < (l0.length : Int) := of_decide_eq_true (by first | (with_reducible assumption) | assumption)
  obtain ⟨ad284, e284, hx284_0, hx284_1, hx284_2, hx284_3⟩ := at_T42 HR0.out a2 p284 q284
  have hw284_3 := hx284_3
  have hw284_2 := hx284_2
  have hw284_1 := hx284_1
  have hw284_0 := hx284_0
  cases e284
  replace hx284_0 := (HB.out.cell (World.block_lt_of_cell? w _ hx284_0)).trans hx284_0
  replace hx284_1 := (HB.out.cell (World.block_lt_of_cell? w _ hx284_1)).trans hx284_1
  replace hx284_2 := (HB.out.cell (World.block_lt_of_cell? w _ hx284_2)).trans hx284_2
  replace hx284_3 := (HB.out.cell (World.block_lt_of_cell? w _ hx284_3)).trans hx284_3
  replace p284 := eq_true p284
  replace q284 := eq_true q284
  have p285 : 0 ≤ (a3 : Int) := of_decide_eq_true (by first | (with_reducible assumption) | assumption)
  have q285 : a3 < (l0.length : Int) := of_decide_eq_true (by first | (with_reducible assumption) | assumption)
  obtain ⟨ad285, e285, hx285_0, hx285_1, hx285_2, hx285_3⟩ := at_T42 HR0.out a3 p285 q285
  have hw285_3 := hx285_3
  have hw285_2 := hx285_2
  have hw285_1 := hx285_1
  have hw285_0 := hx285_0
  obtain rfl : ad284 = ad285 := (by injection e285)
  replace hx285_0 := (HB.out.cell (World.block_lt_of_cell? w _ hx285_0)).trans hx285_0
  replace hx285_1 := (HB.out.cell (World.block_lt_of_cell? w _ hx285_1)).trans hx285_1
  replace hx285_2 := (HB.out.cell (World.block_lt_of_cell? w _ hx285_2)).trans hx285_2
  replace hx285_3 := (HB.out.cell (World.block_lt_of_cell? w _ hx285_3)).trans hx285_3
  replace p285 := eq_true p285
  replace q285 := eq_true q285
  refine start_ (n := 12) (S := fun w' => w'.cell? (ad284.add ((a2).toNat * 4)) = some (.int .i64 ((rd_T42 l0 a2).f0)) ∧ w'.cell? ⟨(ad284.add ((a2).toNat * 4)).block, (ad284.add ((a2).toNat * 4)).off + 1, none⟩ = some (.int .i64 ((rd_T42 l0 a2).f1)) ∧ w'.cell? ⟨(ad284.add ((a2).toNat * 4)).block, (ad284.add ((a2).toNat * 4)).off + 2, none⟩ = some (.int .i64 ((rd_T42 l0 a2).f2)) ∧ w'.cell? ⟨(ad284.add ((a2).toNat * 4)).block, (ad284.add ((a2).toNat * 4)).off + 3, none⟩ = some (.int .i64 ((rd_T42 l0 a2).f3)) ∧ w'.cell? (ad284.add ((a3).toNat * 4)) = some (.int .i64 ((rd_T42 l0 a3).f0)) ∧ w'.cell? ⟨(ad284.add ((a3).toNat * 4)).block, (ad284.add ((a3).toNat * 4)).off + 1, none⟩ = some (.int .i64 ((rd_T42 l0 a3).f1)) ∧ w'.cell? ⟨(ad284.add ((a3).toNat * 4)).block, (ad284.add ((a3).toNat * 4)).off + 2, none⟩ = some (.int .i64 ((rd_T42 l0 a3).f2)) ∧ w'.cell? ⟨(ad284.add ((a3).toNat * 4)).block, (ad284.add ((a3).toNat * 4)).off + 3, none⟩ = some (.int .i64 ((rd_T42 l0 a3).f3))) (ds := []) q38_0 (by kernel_rfl) rfl rfl ⟨(bcl_ HB.out hw284_0 :), (bcl_ HB.out hw284_1 :), (bcl_ HB.out hw284_2 :), (bcl_ HB.out hw284_3 :), (bcl_ HB.out hw285_0 :), (bcl_ HB.out hw285_1 :), (bcl_ HB.out hw285_2 :), (bcl_ HB.out hw285_3 :)⟩ (fun hHeld => ?_); refine with_tabW spec_l3Gap.tab1 spec_l3Gap.bits1 (fun HT_ HW_ => ?_)
  generalize w.drew = w57 at HB hx284_0 hx284_1 hx284_2 hx284_3 hx285_0 hx285_1 hx285_2 hx285_3 hHeld ⊢
  refine pw_ HT_ 0 (some 11) ?_
  refine pw_ HT_ 1 (some 12) ?_
  refine pw_ HT_ 2 (some 13) ?_
  refine pw_ HT_ 4 (some 15) ?_
  refine pw_ HT_ 5 (some 16) ?_
  refine pw_ HT_ 6 (some 17) ?_
  refine take_ (i := 3) (N := some 14) (v := ?_) (a' := ?_) q38_7 rfl rfl (take_ofW HT_.out HW_.out (by kernel_rfl)) (fun _ _ _ h => h) (Or.inl ⟨by rfl, ?_⟩) hHeld ?_ ?_
  rotate_left
  ·rintro w' ⟨s0, s1, s2, s3, s4, s5, s6, s7⟩
   go_simp
   with_reducible rfl
  rotate_left
  ·simp only [aq_]
   rfl
  refine take_ (i := 7) (N := some 18) (v := ?_) (a' := ?_) q38_8 rfl rfl (take_ofW HT_.out HW_.out (by kernel_rfl)) (fun _ _ _ h => h) (Or.inl ⟨by rfl, ?_⟩) hHeld ?_ ?_
  rotate_left
  ·rintro w' ⟨s0, s1, s2, s3, s4, s5, s6, s7⟩
   go_simp
   with_reducible rfl
  rotate_left
  ·simp only [aq_]
   rfl
  refine join_ (σ := Nat × Nat) 2 q38_9 (fun s_ => [(9, .pointer (some ⟨s_.1, 0, none⟩)), (10, .pointer (some ⟨s_.2, 0, none⟩))]) (fun s_ w' => (w'.cell? (ad284.add ((a2).toNat * 4)) = some (.int .i64 ((rd_T42 l0 a2).f0)) ∧ w'.cell? ⟨(ad284.add ((a2).toNat * 4)).block, (ad284.add ((a2).toNat * 4)).off + 1, none⟩ = some (.int .i64 ((rd_T42 l0 a2).f1)) ∧ w'.cell? ⟨(ad284.add ((a2).toNat * 4)).block, (ad284.add ((a2).toNat * 4)).off + 2, none⟩ = some (.int .i64 ((rd_T42 l0 a2).f2)) ∧ w'.cell? ⟨(ad284.add ((a2).toNat * 4)).block, (ad284.add ((a2).toNat * 4)).off + 3, none⟩ = some (.int .i64 ((rd_T42 l0 a2).f3)) ∧ w'.cell? (ad284.add ((a3).toNat * 4)) = some (.int .i64 ((rd_T42 l0 a3).f0)) ∧ w'.cell? ⟨(ad284.add ((a3).toNat * 4)).block, (ad284.add ((a3).toNat * 4)).off + 1, none⟩ = some (.int .i64 ((rd_T42 l0 a3).f1)) ∧ w'.cell? ⟨(ad284.add ((a3).toNat * 4)).block, (ad284.add ((a3).toNat * 4)).off + 2, none⟩ = some (.int .i64 ((rd_T42 l0 a3).f2)) ∧ w'.cell? ⟨(ad284.add ((a3).toNat * 4)).block, (ad284.add ((a3).toNat * 4)).off + 3, none⟩ = some (.int .i64 ((rd_T42 l0 a3).f3))) ∧ (w'.heap[s_.1]? = some (.cells #[.int .i64 0, .int .i64 0, .int .i64 0, .int .i64 0] 42 (0, 0))) ∧ (w'.heap[s_.2]? = some (.cells #[.int .i64 0, .int .i64 0, .int .i64 0, .int .i64 0] 42 (0, 0))) ∧ (w.heap.size ≤ s_.1) ∧ (w.heap.size ≤ s_.1) ∧ (s_.2 ≠ s_.1) ∧ (s_.1 ≠ s_.2) ∧ (w.heap.size ≤ s_.2) ∧ (w.heap.size ≤ s_.2) ∧ (Below w.heap.size w w')) ?_ ?_
  rotate_left
  ·intro hCont
   refine two_ (i := 8) (j := 9) (Ni := some 9) (Nj := some 10) q38_10 q38_11 rfl rfl rfl rfl (two_of HT_.out (by kernel_rfl)) (by decide) (by decide) (fun K hK => ?_) (fun K hK => ?_)
   ·skip
    refine box_step ?hg (N := 9) ?hd (cs := #[.int .i64 0, .int .i64 0, .int .i64 0, .int .i64 0]) (t := 42) ?hr ?_; (case hd => rfl); (case hg => rfl); (case hr => first | (go_simp; done) | (go_simp; rfl))
    intro gb286 hg w58 hbox hb
    have n0_ := Aside0.mk (below_step (bw HB.out) hb)
    have n1_ := Aside0.mk (hbox)
    have n2_ := ge_ hg HB.out
    have n3_ := ge_ hg HB.out
    replace HB := n0_
    have BK286 := n1_
    have GW286 := n2_
    have GE286 := n3_
    clear n0_ n1_ n2_ n3_
    clear hb hbox hg
    refine hK.out _ _ ⟨(bcl_ HB.out hw284_0 :), (bcl_ HB.out hw284_1 :), (bcl_ HB.out hw284_2 :), (bcl_ HB.out hw284_3 :), (bcl_ HB.out hw285_0 :), (bcl_ HB.out hw285_1 :), (bcl_ HB.out hw285_2 :), (bcl_ HB.out hw285_3 :)⟩ (fun hHeld => ?_)
    clear hK K
    refine norm_ (a' := ?_) ?_ ?_
    rotate_left
    ·show Act.put _ (some 9) _ = _
     simp only [aq_]
     rfl
    refine one_ (i := 9) (N := some 10) q38_9 rfl rfl (one_of HT_.out (by kernel_rfl)) (by decide) (fun K hK => ?_)
    refine box_step ?hg (N := 10) ?hd (cs := #[.int .i64 0, .int .i64 0, .int .i64 0, .int .i64 0]) (t := 42) ?hr ?_; (case hd => rfl); (case hg => rfl); (case hr => first | (go_simp; done) | (go_simp; rfl))
    intro gb287 hg w59 hbox hb
    have n0_ := Aside0.mk (blk_below (bs BK286.out) hb)
    have n1_ := Aside0.mk (below_step (by repeat (first | (with_reducible first | exact bw HB.out | refine bset ?_ | apply bA | apply bN | apply bD) | exact HB.out)) hb)
    have n2_ := Aside0.mk (hbox)
    have n3_ := Aside0.mk ((by rw [hg]; exact (below_size (by repeat (first | (with_reducible first | exact bw HB.out | refine bset ?_ | apply bA | apply bN | apply bD) | exact HB.out))) : w.heap.size ≤ gb287))
    have n4_ := Aside0.mk ((by rw [hg]; exact (below_size (by repeat (first | (with_reducible first | exact bw HB.out | refine bset ?_ | apply bA | apply bN | apply bD) | exact HB.out))) : w.heap.size ≤ gb287))
    have n5_ := ne_ hg BK286.out
    have n6_ := en_ hg BK286.out
    replace BK286 := n0_
    replace HB := n1_
    have BK287 := n2_
    have GW287 := n3_
    have GE287 := n4_
    have NB286_287 := n5_
    have NB287_286 := n6_
    clear n0_ n1_ n2_ n3_ n4_ n5_ n6_
    clear hb hbox hg
    refine hK.out _ _ ⟨(bcl_ HB.out hw284_0 :), (bcl_ HB.out hw284_1 :), (bcl_ HB.out hw284_2 :), (bcl_ HB.out hw284_3 :), (bcl_ HB.out hw285_0 :), (bcl_ HB.out hw285_1 :), (bcl_ HB.out hw285_2 :), (bcl_ HB.out hw285_3 :)⟩ (fun hHeld => ?_)
    clear hK K
    refine norm_ (a' := ?_) ?_ ?_
    rotate_left
    ·show Act.put _ (some 10) _ = _
     simp only [aq_]
     rfl
    exact norm_ (by simp only [putAll, Act.put, List.setIfInBounds_toArray, List.set_cons_zero, List.set_cons_succ]) (hCont (gb286, gb287) _ ⟨hHeld, (bs BK286.out), (bs BK287.out), GW286.out, GE286.out, NB287_286.out, NB286_287.out, GW287.out, GE287.out, (by repeat (first | (with_reducible first | exact bw HB.out | refine bset ?_ | apply bA | apply bN | apply bD) | exact HB.out))⟩)
   ·skip
    refine box_step ?hg (N := 10) ?hd (cs := #[.int .i64 0, .int .i64 0, .int .i64 0, .int .i64 0]) (t := 42) ?hr ?_; (case hd => rfl); (case hg => rfl); (case hr => first | (go_simp; done) | (go_simp; rfl))
    intro gb287 hg w58 hbox hb
    have n0_ := Aside0.mk (below_step (bw HB.out) hb)
    have n1_ := Aside0.mk (hbox)
    have n2_ := ge_ hg HB.out
    have n3_ := ge_ hg HB.out
    replace HB := n0_
    have BK287 := n1_
    have GW287 := n2_
    have GE287 := n3_
    clear n0_ n1_ n2_ n3_
    clear hb hbox hg
    refine hK.out _ _ ⟨(bcl_ HB.out hw284_0 :), (bcl_ HB.out hw284_1 :), (bcl_ HB.out hw284_2 :), (bcl_ HB.out hw284_3 :), (bcl_ HB.out hw285_0 :), (bcl_ HB.out hw285_1 :), (bcl_ HB.out hw285_2 :), (bcl_ HB.out hw285_3 :)⟩ (fun hHeld => ?_)
    clear hK K
    refine norm_ (a' := ?_) ?_ ?_
    rotate_left
    ·show Act.put _ (some 10) _ = _
     simp only [aq_]
     rfl
    refine one_ (i := 8) (N := some 9) q38_9 rfl rfl (one_of HT_.out (by kernel_rfl)) (by decide) (fun K hK => ?_)
    refine box_step ?hg (N := 9) ?hd (cs := #[.int .i64 0, .int .i64 0, .int .i64 0, .int .i64 0]) (t := 42) ?hr ?_; (case hd => rfl); (case hg => rfl); (case hr => first | (go_simp; done) | (go_simp; rfl))
    intro gb286 hg w59 hbox hb
    have n0_ := Aside0.mk (blk_below (bs BK287.out) hb)
    have n1_ := Aside0.mk (below_step (by repeat (first | (with_reducible first | exact bw HB.out | refine bset ?_ | apply bA | apply bN | apply bD) | exact HB.out)) hb)
    have n2_ := Aside0.mk (hbox)
    have n3_ := Aside0.mk ((by rw [hg]; exact (below_size (by repeat (first | (with_reducible first | exact bw HB.out | refine bset ?_ | apply bA | apply bN | apply bD) | exact HB.out))) : w.heap.size ≤ gb286))
    have n4_ := Aside0.mk ((by rw [hg]; exact (below_size (by repeat (first | (with_reducible first | exact bw HB.out | refine bset ?_ | apply bA | apply bN | apply bD) | exact HB.out))) : w.heap.size ≤ gb286))
    have n5_ := ne_ hg BK287.out
    have n6_ := en_ hg BK287.out
    replace BK287 := n0_
    replace HB := n1_
    have BK286 := n2_
    have GW286 := n3_
    have GE286 := n4_
    have NB287_286 := n5_
    have NB286_287 := n6_
    clear n0_ n1_ n2_ n3_ n4_ n5_ n6_
    clear hb hbox hg
    refine hK.out _ _ ⟨(bcl_ HB.out hw284_0 :), (bcl_ HB.out hw284_1 :), (bcl_ HB.out hw284_2 :), (bcl_ HB.out hw284_3 :), (bcl_ HB.out hw285_0 :), (bcl_ HB.out hw285_1 :), (bcl_ HB.out hw285_2 :), (bcl_ HB.out hw285_3 :)⟩ (fun hHeld => ?_)
    clear hK K
    refine norm_ (a' := ?_) ?_ ?_
    rotate_left
    ·show Act.put _ (some 9) _ = _
     simp only [aq_]
     rfl
    exact norm_ (by simp only [putAll, Act.put, List.setIfInBounds_toArray, List.set_cons_zero, List.set_cons_succ]) (hCont (gb286, gb287) _ ⟨hHeld, (bs BK286.out), (bs BK287.out), GW286.out, GE286.out, NB287_286.out, NB286_287.out, GW287.out, GE287.out, (by repeat (first | (with_reducible first | exact bw HB.out | refine bset ?_ | apply bA | apply bN | apply bD) | exact HB.out))⟩)
  rintro ⟨gb286, gb287⟩ w60 ⟨hS_, h0_, h1_, h2_, h3_, h4_, h5_, h6_, h7_, h8_⟩
  have n0_ : Aside0 (w60.heap[gb286]? = some (.cells #[.int .i64 0, .int .i64 0, .int .i64 0, .int .i64 0] 42 (0, 0))) := ⟨h0_⟩
  have n1_ : Aside0 (w60.heap[gb287]? = some (.cells #[.int .i64 0, .int .i64 0, .int .i64 0, .int .i64 0] 42 (0, 0))) := ⟨h1_⟩
  have n2_ : Aside0 (w.heap.size ≤ gb286) := ⟨h2_⟩
  have n3_ : Aside0 (w.heap.size ≤ gb286) := ⟨h3_⟩
  have n4_ : Aside0 (gb287 ≠ gb286) := ⟨h4_⟩
  have n5_ : Aside0 (gb286 ≠ gb287) := ⟨h5_⟩
  have n6_ : Aside0 (w.heap.size ≤ gb287) := ⟨h6_⟩
  have n7_ : Aside0 (w.heap.size ≤ gb287) := ⟨h7_⟩
  have n8_ : Aside0 (Below w.heap.size w w60) := ⟨h8_⟩
  clear HB
  clear h0_ h1_ h2_ h3_ h4_ h5_ h6_ h7_ h8_
  have BK286 := n0_
  have BK287 := n1_
  have GW286 := n2_
  have GE286 := n3_
  have NB287_286 := n4_
  have NB286_287 := n5_
  have GW287 := n6_
  have GE287 := n7_
  have HB := n8_
  clear n0_ n1_ n2_ n3_ n4_ n5_ n6_ n7_ n8_
  have hHeld : w60.cell? (ad284.add ((a2).toNat * 4)) = some (.int .i64 ((rd_T42 l0 a2).f0)) ∧ w60.cell? ⟨(ad284.add ((a2).toNat * 4)).block, (ad284.add ((a2).toNat * 4)).off + 1, none⟩ = some (.int .i64 ((rd_T42 l0 a2).f1)) ∧ w60.cell? ⟨(ad284.add ((a2).toNat * 4)).block, (ad284.add ((a2).toNat * 4)).off + 2, none⟩ = some (.int .i64 ((rd_T42 l0 a2).f2)) ∧ w60.cell? ⟨(ad284.add ((a2).toNat * 4)).block, (ad284.add ((a2).toNat * 4)).off + 3, none⟩ = some (.int .i64 ((rd_T42 l0 a2).f3)) ∧ w60.cell? (ad284.add ((a3).toNat * 4)) = some (.int .i64 ((rd_T42 l0 a3).f0)) ∧ w60.cell? ⟨(ad284.add ((a3).toNat * 4)).block, (ad284.add ((a3).toNat * 4)).off + 1, none⟩ = some (.int .i64 ((rd_T42 l0 a3).f1)) ∧ w60.cell? ⟨(ad284.add ((a3).toNat * 4)).block, (ad284.add ((a3).toNat * 4)).off + 2, none⟩ = some (.int .i64 ((rd_T42 l0 a3).f2)) ∧ w60.cell? ⟨(ad284.add ((a3).toNat * 4)).block, (ad284.add ((a3).toNat * 4)).off + 3, none⟩ = some (.int .i64 ((rd_T42 l0 a3).f3)) := hS_
  refine norm_ (a' := ?_) ?_ ?_
  rotate_left
  ·simp only [putAll, Act.put, List.setIfInBounds_toArray, List.set_cons_zero, List.set_cons_succ]
   rfl
  refine one_ (i := 10) (N := none) q38_12 rfl rfl (one_of HT_.out (by kernel_rfl)) (by decide) (fun K hK => ?_)
  have hs61 : w60.cell? ⟨gb286, 0, none⟩ = some (.int .i64 0) := (blk_cell BK286.out 0).trans rfl
  have hfs61 := blk_frozen BK286.out 0
  have hns61_1 := NB287_286.out
  have hms61_1 := NB286_287.out
  have hs62 : w60.cell? ⟨gb286, 1, none⟩ = some (.int .i64 0) := (blk_cell BK286.out 1).trans rfl
  have hfs62 := blk_frozen BK286.out 1
  have hns62_1 := NB287_286.out
  have hms62_1 := NB286_287.out
  have hs63 : w60.cell? ⟨gb286, 2, none⟩ = some (.int .i64 0) := (blk_cell BK286.out 2).trans rfl
  have hfs63 := blk_frozen BK286.out 2
  have hns63_1 := NB287_286.out
  have hms63_1 := NB286_287.out
  have hs64 : w60.cell? ⟨gb286, 3, none⟩ = some (.int .i64 0) := (blk_cell BK286.out 3).trans rfl
  have hfs64 := blk_frozen BK286.out 3
  have hns64_1 := NB287_286.out
  have hms64_1 := NB286_287.out
  refine skip_ (w1 := ?_) (by rfl) rfl ?_ ?_
  rotate_left
  ·go_simp
   rfl
  refine hK.out _ _ ⟨((cell_far (p := ⟨gb286, _, none⟩) (bne_ hw284_0 GW286.out) _).trans (((cell_far (p := ⟨gb286, _, none⟩) (bne_ hw284_0 GW286.out) _).trans (((cell_far (p := ⟨gb286, _, none⟩) (bne_ hw284_0 GW286.out) _).trans (((cell_far (p := ⟨gb286, _, none⟩) (bne_ hw284_0 GW286.out) _).trans (hHeld.1)))))))), ((cell_far (p := ⟨gb286, _, none⟩) (bne_ hw284_1 GW286.out) _).trans (((cell_far (p := ⟨gb286, _, none⟩) (bne_ hw284_1 GW286.out) _).trans (((cell_far (p := ⟨gb286, _, none⟩) (bne_ hw284_1 GW286.out) _).trans (((cell_far (p := ⟨gb286, _, none⟩) (bne_ hw284_1 GW286.out) _).trans (hHeld.2.1)))))))), ((cell_far (p := ⟨gb286, _, none⟩) (bne_ hw284_2 GW286.out) _).trans (((cell_far (p := ⟨gb286, _, none⟩) (bne_ hw284_2 GW286.out) _).trans (((cell_far (p := ⟨gb286, _, none⟩) (bne_ hw284_2 GW286.out) _).trans (((cell_far (p := ⟨gb286, _, none⟩) (bne_ hw284_2 GW286.out) _).trans (hHeld.2.2.1)))))))), ((cell_far (p := ⟨gb286, _, none⟩) (bne_ hw284_3 GW286.out) _).trans (((cell_far (p := ⟨gb286, _, none⟩) (bne_ hw284_3 GW286.out) _).trans (((cell_far (p := ⟨gb286, _, none⟩) (bne_ hw284_3 GW286.out) _).trans (((cell_far (p := ⟨gb286, _, none⟩) (bne_ hw284_3 GW286.out) _).trans (hHeld.2.2.2.1)))))))), ((cell_far (p := ⟨gb286, _, none⟩) (bne_ hw285_0 GW286.out) _).trans (((cell_far (p := ⟨gb286, _, none⟩) (bne_ hw285_0 GW286.out) _).trans (((cell_far (p := ⟨gb286, _, none⟩) (bne_ hw285_0 GW286.out) _).trans (((cell_far (p := ⟨gb286, _, none⟩) (bne_ hw285_0 GW286.out) _).trans (hHeld.2.2.2.2.1)))))))), ((cell_far (p := ⟨gb286, _, none⟩) (bne_ hw285_1 GW286.out) _).trans (((cell_far (p := ⟨gb286, _, none⟩) (bne_ hw285_1 GW286.out) _).trans (((cell_far (p := ⟨gb286, _, none⟩) (bne_ hw285_1 GW286.out) _).trans (((cell_far (p := ⟨gb286, _, none⟩) (bne_ hw285_1 GW286.out) _).trans (hHeld.2.2.2.2.2.1)))))))), ((cell_far (p := ⟨gb286, _, none⟩) (bne_ hw285_2 GW286.out) _).trans (((cell_far (p := ⟨gb286, _, none⟩) (bne_ hw285_2 GW286.out) _).trans (((cell_far (p := ⟨gb286, _, none⟩) (bne_ hw285_2 GW286.out) _).trans (((cell_far (p := ⟨gb286, _, none⟩) (bne_ hw285_2 GW286.out) _).trans (hHeld.2.2.2.2.2.2.1)))))))), ((cell_far (p := ⟨gb286, _, none⟩) (bne_ hw285_3 GW286.out) _).trans (((cell_far (p := ⟨gb286, _, none⟩) (bne_ hw285_3 GW286.out) _).trans (((cell_far (p := ⟨gb286, _, none⟩) (bne_ hw285_3 GW286.out) _).trans (((cell_far (p := ⟨gb286, _, none⟩) (bne_ hw285_3 GW286.out) _).trans (hHeld.2.2.2.2.2.2.2))))))))⟩ (fun hHeld => ?_)
  clear hK K
  refine one_ (i := 11) (N := none) q38_13 rfl rfl (one_of HT_.out (by kernel_rfl)) (by decide) (fun K hK => ?_)
  have hs65 : w60.cell? ⟨gb287, 0, none⟩ = some (.int .i64 0) := (blk_cell BK287.out 0).trans rfl
  have hfs65 := blk_frozen BK287.out 0
  have hns65_0 := NB286_287.out
  have hms65_0 := NB287_286.out
  have hs66 : w60.cell? ⟨gb287, 1, none⟩ = some (.int .i64 0) := (blk_cell BK287.out 1).trans rfl
  have hfs66 := blk_frozen BK287.out 1
  have hns66_0 := NB286_287.out
  have hms66_0 := NB287_286.out
  have hs67 : w60.cell? ⟨gb287, 2, none⟩ = some (.int .i64 0) := (blk_cell BK287.out 2).trans rfl
  have hfs67 := blk_frozen BK287.out 2
  have hns67_0 := NB286_287.out
  have hms67_0 := NB287_286.out
  have hs68 : w60.cell? ⟨gb287, 3, none⟩ = some (.int .i64 0) := (blk_cell BK287.out 3).trans rfl
  have hfs68 := blk_frozen BK287.out 3
  have hns68_0 := NB286_287.out
  have hms68_0 := NB287_286.out
  refine skip_ (w1 := ?_) (by rfl) rfl ?_ ?_
  rotate_left
  ·go_simp
   rfl
  refine hK.out _ _ ⟨((cell_far (p := ⟨gb287, _, none⟩) (bne_ hw284_0 GW287.out) _).trans (((cell_far (p := ⟨gb287, _, none⟩) (bne_ hw284_0 GW287.out) _).trans (((cell_far (p := ⟨gb287, _, none⟩) (bne_ hw284_0 GW287.out) _).trans (((cell_far (p := ⟨gb287, _, none⟩) (bne_ hw284_0 GW287.out) _).trans (hHeld.1)))))))), ((cell_far (p := ⟨gb287, _, none⟩) (bne_ hw284_1 GW287.out) _).trans (((cell_far (p := ⟨gb287, _, none⟩) (bne_ hw284_1 GW287.out) _).trans (((cell_far (p := ⟨gb287, _, none⟩) (bne_ hw284_1 GW287.out) _).trans (((cell_far (p := ⟨gb287, _, none⟩) (bne_ hw284_1 GW287.out) _).trans (hHeld.2.1)))))))), ((cell_far (p := ⟨gb287, _, none⟩) (bne_ hw284_2 GW287.out) _).trans (((cell_far (p := ⟨gb287, _, none⟩) (bne_ hw284_2 GW287.out) _).trans (((cell_far (p := ⟨gb287, _, none⟩) (bne_ hw284_2 GW287.out) _).trans (((cell_far (p := ⟨gb287, _, none⟩) (bne_ hw284_2 GW287.out) _).trans (hHeld.2.2.1)))))))), ((cell_far (p := ⟨gb287, _, none⟩) (bne_ hw284_3 GW287.out) _).trans (((cell_far (p := ⟨gb287, _, none⟩) (bne_ hw284_3 GW287.out) _).trans (((cell_far (p := ⟨gb287, _, none⟩) (bne_ hw284_3 GW287.out) _).trans (((cell_far (p := ⟨gb287, _, none⟩) (bne_ hw284_3 GW287.out) _).trans (hHeld.2.2.2.1)))))))), ((cell_far (p := ⟨gb287, _, none⟩) (bne_ hw285_0 GW287.out) _).trans (((cell_far (p := ⟨gb287, _, none⟩) (bne_ hw285_0 GW287.out) _).trans (((cell_far (p := ⟨gb287, _, none⟩) (bne_ hw285_0 GW287.out) _).trans (((cell_far (p := ⟨gb287, _, none⟩) (bne_ hw285_0 GW287.out) _).trans (hHeld.2.2.2.2.1)))))))), ((cell_far (p := ⟨gb287, _, none⟩) (bne_ hw285_1 GW287.out) _).trans (((cell_far (p := ⟨gb287, _, none⟩) (bne_ hw285_1 GW287.out) _).trans (((cell_far (p := ⟨gb287, _, none⟩) (bne_ hw285_1 GW287.out) _).trans (((cell_far (p := ⟨gb287, _, none⟩) (bne_ hw285_1 GW287.out) _).trans (hHeld.2.2.2.2.2.1)))))))), ((cell_far (p := ⟨gb287, _, none⟩) (bne_ hw285_2 GW287.out) _).trans (((cell_far (p := ⟨gb287, _, none⟩) (bne_ hw285_2 GW287.out) _).trans (((cell_far (p := ⟨gb287, _, none⟩) (bne_ hw285_2 GW287.out) _).trans (((cell_far (p := ⟨gb287, _, none⟩) (bne_ hw285_2 GW287.out) _).trans (hHeld.2.2.2.2.2.2.1)))))))), ((cell_far (p := ⟨gb287, _, none⟩) (bne_ hw285_3 GW287.out) _).trans (((cell_far (p := ⟨gb287, _, none⟩) (bne_ hw285_3 GW287.out) _).trans (((cell_far (p := ⟨gb287, _, none⟩) (bne_ hw285_3 GW287.out) _).trans (((cell_far (p := ⟨gb287, _, none⟩) (bne_ hw285_3 GW287.out) _).trans (hHeld.2.2.2.2.2.2.2))))))))⟩ (fun hHeld => ?_)
  clear hK K
  refine done_ (done_of HT_.out (by kernel_rfl)) ?_
  have hnb69 := NB286_287.out
  have hnc69 := NB287_286.out
  obtain ⟨hcz70_0, hcz70_1, hcz70_2, hcz70_3, hfz70_0, hfz70_1, hfz70_2, hfz70_3⟩ := bz4 BK286.out
  obtain ⟨hcz71_0, hcz71_1, hcz71_2, hcz71_3, hfz71_0, hfz71_1, hfz71_2, hfz71_3⟩ := bz4 BK287.out
  try go_wp2
  go_ret
  exact ⟨by first | rfl | (simp [errW_none, errW_some] <;> rfl) | (simp [*, errW_none, errW_some] <;> rfl), by repeat (first | (with_reducible first | exact bw HB.out | refine bset ?_ | apply bA | apply bN | apply bD) | exact HB.out)⟩
 rw [if_pos c41] at H
 have c41b0 : (a1 == 3) = true := beq_iff_eq.mpr c41
 have c41b1 : (a1 != 3) = false := bne_eq_false_iff_eq.mpr c41
 clear c41
 obtain rfl := Option.some.inj H
 go_enter Try.func38, Try.ntmps38
 try go_wp2
 have n0_ := Aside0.mk (below_drew1 HB.out)
 replace HB := n0_
 clear n0_
 have p284 : 0 ≤ (a2 : Int) := of_decide_eq_true (by first | (with_reducible assumption) | assumption)
 have q284 : a2 < (l0.length : Int) := of_decide_eq_true (by first | (with_reducible assumption) | assumption)
 obtain ⟨ad284, e284, hx284_0, hx284_1, hx284_2, hx284_3⟩ := at_T42 HR0.out a2 p284 q284
 have hw284_3 := hx284_3
 have hw284_2 := hx284_2
 have hw284_1 := hx284_1
 have hw284_0 := hx284_0
 cases e284
 replace hx284_0 := (HB.out.cell (World.block_lt_of_cell? w _ hx284_0)).trans hx284_0
 replace hx284_1 := (HB.out.cell (World.block_lt_of_cell? w _ hx284_1)).trans hx284_1
 replace hx284_2 := (HB.out.cell (World.block_lt_of_cell? w _ hx284_2)).trans hx284_2
 replace hx284_3 := (HB.out.cell (World.block_lt_of_cell? w _ hx284_3)).trans hx284_3
 replace p284 := eq_true p284
 replace q284 := eq_true q284
 have p285 : 0 ≤ (a3 : Int) := of_decide_eq_true (by first | (with_reducible assumption) | assumption)
 have q285 : a3 < (l0.length : Int) := of_decide_eq_true (by first | (with_reducible assumption) | assumption)
 obtain ⟨ad285, e285, hx285_0, hx285_1, hx285_2, hx285_3⟩ := at_T42 HR0.out a3 p285 q285
 have hw285_3 := hx285_3
 have hw285_2 := hx285_2
 have hw285_1 := hx285_1
 have hw285_0 := hx285_0
 obtain rfl : ad284 = ad285 := (by injection e285)
 replace hx285_0 := (HB.out.cell (World.block_lt_of_cell? w _ hx285_0)).trans hx285_0
 replace hx285_1 := (HB.out.cell (World.block_lt_of_cell? w _ hx285_1)).trans hx285_1
 replace hx285_2 := (HB.out.cell (World.block_lt_of_cell? w _ hx285_2)).trans hx285_2
 replace hx285_3 := (HB.out.cell (World.block_lt_of_cell? w _ hx285_3)).trans hx285_3
 replace p285 := eq_true p285
 replace q285 := eq_true q285
 refine start_ (n := 12) (S := fun w' => w'.cell? (ad284.add ((a2).toNat * 4)) = some (.int .i64 ((rd_T42 l0 a2).f0)) ∧ w'.cell? ⟨(ad284.add ((a2).toNat * 4)).block, (ad284.add ((a2).toNat * 4)).off + 1, none⟩ = some (.int .i64 ((rd_T42 l0 a2).f1)) ∧ w'.cell? ⟨(ad284.add ((a2).toNat * 4)).block, (ad284.add ((a2).toNat * 4)).off + 2, none⟩ = some (.int .i64 ((rd_T42 l0 a2).f2)) ∧ w'.cell? ⟨(ad284.add ((a2).toNat * 4)).block, (ad284.add ((a2).toNat * 4)).off + 3, none⟩ = some (.int .i64 ((rd_T42 l0 a2).f3)) ∧ w'.cell? (ad284.add ((a3).toNat * 4)) = some (.int .i64 ((rd_T42 l0 a3).f0)) ∧ w'.cell? ⟨(ad284.add ((a3).toNat * 4)).block, (ad284.add ((a3).toNat * 4)).off + 1, none⟩ = some (.int .i64 ((rd_T42 l0 a3).f1)) ∧ w'.cell? ⟨(ad284.add ((a3).toNat * 4)).block, (ad284.add ((a3).toNat * 4)).off + 2, none⟩ = some (.int .i64 ((rd_T42 l0 a3).f2)) ∧ w'.cell? ⟨(ad284.add ((a3).toNat * 4)).block, (ad284.add ((a3).toNat * 4)).off + 3, none⟩ = some (.int .i64 ((rd_T42 l0 a3).f3))) (ds := []) q38_0 (by kernel_rfl) rfl rfl ⟨(bcl_ HB.out hw284_0 :), (bcl_ HB.out hw284_1 :), (bcl_ HB.out hw284_2 :), (bcl_ HB.out hw284_3 :), (bcl_ HB.out hw285_0 :), (bcl_ HB.out hw285_1 :), (bcl_ HB.out hw285_2 :), (bcl_ HB.out hw285_3 :)⟩ (fun hHeld => ?_); refine with_tabW spec_l3Gap.tab1 spec_l3Gap.bits1 (fun HT_ HW_ => ?_)
 generalize w.drew = w42 at HB hx284_0 hx284_1 hx284_2 hx284_3 hx285_0 hx285_1 hx285_2 hx285_3 hHeld ⊢
 refine pw_ HT_ 0 (some 11) ?_
 refine pw_ HT_ 1 (some 12) ?_
 refine pw_ HT_ 2 (some 13) ?_
 refine pw_ HT_ 4 (some 15) ?_
 refine pw_ HT_ 5 (some 16) ?_
 refine pw_ HT_ 6 (some 17) ?_
 refine take_ (i := 3) (N := some 14) (v := ?_) (a' := ?_) q38_7 rfl rfl (take_ofW HT_.out HW_.out (by kernel_rfl)) (fun _ _ _ h => h) (Or.inl ⟨by rfl, ?_⟩) hHeld ?_ ?_
 rotate_left
 ·rintro w' ⟨s0, s1, s2, s3, s4, s5, s6, s7⟩
  go_simp
  with_reducible rfl
 rotate_left
 ·simp only [aq_]
  rfl
 refine take_ (i := 7) (N := some 18) (v := ?_) (a' := ?_) q38_8 rfl rfl (take_ofW HT_.out HW_.out (by kernel_rfl)) (fun _ _ _ h => h) (Or.inl ⟨by rfl, ?_⟩) hHeld ?_ ?_
 rotate_left
 ·rintro w' ⟨s0, s1, s2, s3, s4, s5, s6, s7⟩
  go_simp
  with_reducible rfl
 rotate_left
 ·simp only [aq_]
  rfl
 refine join_ (σ := Nat × Nat) 2 q38_9 (fun s_ => [(9, .pointer (some ⟨s_.1, 0, none⟩)), (10, .pointer (some ⟨s_.2, 0, none⟩))]) (fun s_ w' => (w'.cell? (ad284.add ((a2).toNat * 4)) = some (.int .i64 ((rd_T42 l0 a2).f0)) ∧ w'.cell? ⟨(ad284.add ((a2).toNat * 4)).block, (ad284.add ((a2).toNat * 4)).off + 1, none⟩ = some (.int .i64 ((rd_T42 l0 a2).f1)) ∧ w'.cell? ⟨(ad284.add ((a2).toNat * 4)).block, (ad284.add ((a2).toNat * 4)).off + 2, none⟩ = some (.int .i64 ((rd_T42 l0 a2).f2)) ∧ w'.cell? ⟨(ad284.add ((a2).toNat * 4)).block, (ad284.add ((a2).toNat * 4)).off + 3, none⟩ = some (.int .i64 ((rd_T42 l0 a2).f3)) ∧ w'.cell? (ad284.add ((a3).toNat * 4)) = some (.int .i64 ((rd_T42 l0 a3).f0)) ∧ w'.cell? ⟨(ad284.add ((a3).toNat * 4)).block, (ad284.add ((a3).toNat * 4)).off + 1, none⟩ = some (.int .i64 ((rd_T42 l0 a3).f1)) ∧ w'.cell? ⟨(ad284.add ((a3).toNat * 4)).block, (ad284.add ((a3).toNat * 4)).off + 2, none⟩ = some (.int .i64 ((rd_T42 l0 a3).f2)) ∧ w'.cell? ⟨(ad284.add ((a3).toNat * 4)).block, (ad284.add ((a3).toNat * 4)).off + 3, none⟩ = some (.int .i64 ((rd_T42 l0 a3).f3))) ∧ (w'.heap[s_.1]? = some (.cells #[.int .i64 0, .int .i64 0, .int .i64 0, .int .i64 0] 42 (0, 0))) ∧ (w'.heap[s_.2]? = some (.cells #[.int .i64 0, .int .i64 0, .int .i64 0, .int .i64 0] 42 (0, 0))) ∧ (w.heap.size ≤ s_.1) ∧ (w.heap.size ≤ s_.1) ∧ (s_.2 ≠ s_.1) ∧ (s_.1 ≠ s_.2) ∧ (w.heap.size ≤ s_.2) ∧ (w.heap.size ≤ s_.2) ∧ (Below w.heap.size w w')) ?_ ?_
 rotate_left
 ·intro hCont
  refine two_ (i := 8) (j := 9) (Ni := some 9) (Nj := some 10) q38_10 q38_11 rfl rfl rfl rfl (two_of HT_.out (by kernel_rfl)) (by decide) (by decide) (fun K hK => ?_) (fun K hK => ?_)
  ·skip
   refine box_step ?hg (N := 9) ?hd (cs := #[.int .i64 0, .int .i64 0, .int .i64 0, .int .i64 0]) (t := 42) ?hr ?_; (case hd => rfl); (case hg => rfl); (case hr => first | (go_simp; done) | (go_simp; rfl))
   intro gb286 hg w43 hbox hb
   have n0_ := Aside0.mk (below_step (bw HB.out) hb)
   have n1_ := Aside0.mk (hbox)
   have n2_ := ge_ hg HB.out
   have n3_ := ge_ hg HB.out
   replace HB := n0_
   have BK286 := n1_
   have GW286 := n2_
   have GE286 := n3_
   clear n0_ n1_ n2_ n3_
   clear hb hbox hg
   refine hK.out _ _ ⟨(bcl_ HB.out hw284_0 :), (bcl_ HB.out hw284_1 :), (bcl_ HB.out hw284_2 :), (bcl_ HB.out hw284_3 :), (bcl_ HB.out hw285_0 :), (bcl_ HB.out hw285_1 :), (bcl_ HB.out hw285_2 :), (bcl_ HB.out hw285_3 :)⟩ (fun hHeld => ?_)
   clear hK K
   refine norm_ (a' := ?_) ?_ ?_
   rotate_left
   ·show Act.put _ (some 9) _ = _
    simp only [aq_]
    rfl
   refine one_ (i := 9) (N := some 10) q38_9 rfl rfl (one_of HT_.out (by kernel_rfl)) (by decide) (fun K hK => ?_)
   refine box_step ?hg (N := 10) ?hd (cs := #[.int .i64 0, .int .i64 0, .int .i64 0, .int .i64 0]) (t := 42) ?hr ?_; (case hd => rfl); (case hg => rfl); (case hr => first | (go_simp; done) | (go_simp; rfl))
   intro gb287 hg w44 hbox hb
   have n0_ := Aside0.mk (blk_below (bs BK286.out) hb)
   have n1_ := Aside0.mk (below_step (by repeat (first | (with_reducible first | exact bw HB.out | refine bset ?_ | apply bA | apply bN | apply bD) | exact HB.out)) hb)
   have n2_ := Aside0.mk (hbox)
   have n3_ := Aside0.mk ((by rw [hg]; exact (below_size (by repeat (first | (with_reducible first | exact bw HB.out | refine bset ?_ | apply bA | apply bN | apply bD) | exact HB.out))) : w.heap.size ≤ gb287))
   have n4_ := Aside0.mk ((by rw [hg]; exact (below_size (by repeat (first | (with_reducible first | exact bw HB.out | refine bset ?_ | apply bA | apply bN | apply bD) | exact HB.out))) : w.heap.size ≤ gb287))
   have n5_ := ne_ hg BK286.out
   have n6_ := en_ hg BK286.out
   replace BK286 := n0_
   replace HB := n1_
   have BK287 := n2_
   have GW287 := n3_
   have GE287 := n4_
   have NB286_287 := n5_
   have NB287_286 := n6_
   clear n0_ n1_ n2_ n3_ n4_ n5_ n6_
   clear hb hbox hg
   refine hK.out _ _ ⟨(bcl_ HB.out hw284_0 :), (bcl_ HB.out hw284_1 :), (bcl_ HB.out hw284_2 :), (bcl_ HB.out hw284_3 :), (bcl_ HB.out hw285_0 :), (bcl_ HB.out hw285_1 :), (bcl_ HB.out hw285_2 :), (bcl_ HB.out hw285_3 :)⟩ (fun hHeld => ?_)
   clear hK K
   refine norm_ (a' := ?_) ?_ ?_
   rotate_left
   ·show Act.put _ (some 10) _ = _
    simp only [aq_]
    rfl
   exact norm_ (by simp only [putAll, Act.put, List.setIfInBounds_toArray, List.set_cons_zero, List.set_cons_succ]) (hCont (gb286, gb287) _ ⟨hHeld, (bs BK286.out), (bs BK287.out), GW286.out, GE286.out, NB287_286.out, NB286_287.out, GW287.out, GE287.out, (by repeat (first | (with_reducible first | exact bw HB.out | refine bset ?_ | apply bA | apply bN | apply bD) | exact HB.out))⟩)
  ·skip
   refine box_step ?hg (N := 10) ?hd (cs := #[.int .i64 0, .int .i64 0, .int .i64 0, .int .i64 0]) (t := 42) ?hr ?_; (case hd => rfl); (case hg => rfl); (case hr => first | (go_simp; done) | (go_simp; rfl))
   intro gb287 hg w43 hbox hb
   have n0_ := Aside0.mk (below_step (bw HB.out) hb)
   have n1_ := Aside0.mk (hbox)
   have n2_ := ge_ hg HB.out
   have n3_ := ge_ hg HB.out
   replace HB := n0_
   have BK287 := n1_
   have GW287 := n2_
   have GE287 := n3_
   clear n0_ n1_ n2_ n3_
   clear hb hbox hg
   refine hK.out _ _ ⟨(bcl_ HB.out hw284_0 :), (bcl_ HB.out hw284_1 :), (bcl_ HB.out hw284_2 :), (bcl_ HB.out hw284_3 :), (bcl_ HB.out hw285_0 :), (bcl_ HB.out hw285_1 :), (bcl_ HB.out hw285_2 :), (bcl_ HB.out hw285_3 :)⟩ (fun hHeld => ?_)
   clear hK K
   refine norm_ (a' := ?_) ?_ ?_
   rotate_left
   ·show Act.put _ (some 10) _ = _
    simp only [aq_]
    rfl
   refine one_ (i := 8) (N := some 9) q38_9 rfl rfl (one_of HT_.out (by kernel_rfl)) (by decide) (fun K hK => ?_)
   refine box_step ?hg (N := 9) ?hd (cs := #[.int .i64 0, .int .i64 0, .int .i64 0, .int .i64 0]) (t := 42) ?hr ?_; (case hd => rfl); (case hg => rfl); (case hr => first | (go_simp; done) | (go_simp; rfl))
   intro gb286 hg w44 hbox hb
   have n0_ := Aside0.mk (blk_below (bs BK287.out) hb)
   have n1_ := Aside0.mk (below_step (by repeat (first | (with_reducible first | exact bw HB.out | refine bset ?_ | apply bA | apply bN | apply bD) | exact HB.out)) hb)
   have n2_ := Aside0.mk (hbox)
   have n3_ := Aside0.mk ((by rw [hg]; exact (below_size (by repeat (first | (with_reducible first | exact bw HB.out | refine bset ?_ | apply bA | apply bN | apply bD) | exact HB.out))) : w.heap.size ≤ gb286))
   have n4_ := Aside0.mk ((by rw [hg]; exact (below_size (by repeat (first | (with_reducible first | exact bw HB.out | refine bset ?_ | apply bA | apply bN | apply bD) | exact HB.out))) : w.heap.size ≤ gb286))
   have n5_ := ne_ hg BK287.out
   have n6_ := en_ hg BK287.out
   replace BK287 := n0_
   replace HB := n1_
   have BK286 := n2_
   have GW286 := n3_
   have GE286 := n4_
   have NB287_286 := n5_
   have NB286_287 := n6_
   clear n0_ n1_ n2_ n3_ n4_ n5_ n6_
   clear hb hbox hg
   refine hK.out _ _ ⟨(bcl_ HB.out hw284_0 :), (bcl_ HB.out hw284_1 :), (bcl_ HB.out hw284_2 :), (bcl_ HB.out hw284_3 :), (bcl_ HB.out hw285_0 :), (bcl_ HB.out hw285_1 :), (bcl_ HB.out hw285_2 :), (bcl_ HB.out hw285_3 :)⟩ (fun hHeld => ?_)
   clear hK K
   refine norm_ (a' := ?_) ?_ ?_
   rotate_left
   ·show Act.put _ (some 9) _ = _
    simp only [aq_]
    rfl
   exact norm_ (by simp only [putAll, Act.put, List.setIfInBounds_toArray, List.set_cons_zero, List.set_cons_succ]) (hCont (gb286, gb287) _ ⟨hHeld, (bs BK286.out), (bs BK287.out), GW286.out, GE286.out, NB287_286.out, NB286_287.out, GW287.out, GE287.out, (by repeat (first | (with_reducible first | exact bw HB.out | refine bset ?_ | apply bA | apply bN | apply bD) | exact HB.out))⟩)
 rintro ⟨gb286, gb287⟩ w45 ⟨hS_, h0_, h1_, h2_, h3_, h4_, h5_, h6_, h7_, h8_⟩
 have n0_ : Aside0 (w45.heap[gb286]? = some (.cells #[.int .i64 0, .int .i64 0, .int .i64 0, .int .i64 0] 42 (0, 0))) := ⟨h0_⟩
 have n1_ : Aside0 (w45.heap[gb287]? = some (.cells #[.int .i64 0, .int .i64 0, .int .i64 0, .int .i64 0] 42 (0, 0))) := ⟨h1_⟩
 have n2_ : Aside0 (w.heap.size ≤ gb286) := ⟨h2_⟩
 have n3_ : Aside0 (w.heap.size ≤ gb286) := ⟨h3_⟩
 have n4_ : Aside0 (gb287 ≠ gb286) := ⟨h4_⟩
 have n5_ : Aside0 (gb286 ≠ gb287) := ⟨h5_⟩
 have n6_ : Aside0 (w.heap.size ≤ gb287) := ⟨h6_⟩
 have n7_ : Aside0 (w.heap.size ≤ gb287) := ⟨h7_⟩
 have n8_ : Aside0 (Below w.heap.size w w45) := ⟨h8_⟩
 clear HB
 clear h0_ h1_ h2_ h3_ h4_ h5_ h6_ h7_ h8_
 have BK286 := n0_
 have BK287 := n1_
 have GW286 := n2_
 have GE286 := n3_
 have NB287_286 := n4_
 have NB286_287 := n5_
 have GW287 := n6_
 have GE287 := n7_
 have HB := n8_
 clear n0_ n1_ n2_ n3_ n4_ n5_ n6_ n7_ n8_
 have hHeld : w45.cell? (ad284.add ((a2).toNat * 4)) = some (.int .i64 ((rd_T42 l0 a2).f0)) ∧ w45.cell? ⟨(ad284.add ((a2).toNat * 4)).block, (ad284.add ((a2).toNat * 4)).off + 1, none⟩ = some (.int .i64 ((rd_T42 l0 a2).f1)) ∧ w45.cell? ⟨(ad284.add ((a2).toNat * 4)).block, (ad284.add ((a2).toNat * 4)).off + 2, none⟩ = some (.int .i64 ((rd_T42 l0 a2).f2)) ∧ w45.cell? ⟨(ad284.add ((a2).toNat * 4)).block, (ad284.add ((a2).toNat * 4)).off + 3, none⟩ = some (.int .i64 ((rd_T42 l0 a2).f3)) ∧ w45.cell? (ad284.add ((a3).toNat * 4)) = some (.int .i64 ((rd_T42 l0 a3).f0)) ∧ w45.cell? ⟨(ad284.add ((a3).toNat * 4)).block, (ad284.add ((a3).toNat * 4)).off + 1, none⟩ = some (.int .i64 ((rd_T42 l0 a3).f1)) ∧ w45.cell? ⟨(ad284.add ((a3).toNat * 4)).block, (ad284.add ((a3).toNat * 4)).off + 2, none⟩ = some (.int .i64 ((rd_T42 l0 a3).f2)) ∧ w45.cell? ⟨(ad284.add ((a3).toNat * 4)).block, (ad284.add ((a3).toNat * 4)).off + 3, none⟩ = some (.int .i64 ((rd_T42 l0 a3).f3)) := hS_
 refine norm_ (a' := ?_) ?_ ?_
 rotate_left
 ·simp only [putAll, Act.put, List.setIfInBounds_toArray, List.set_cons_zero, List.set_cons_succ]
  rfl
 refine one_ (i := 10) (N := none) q38_12 rfl rfl (one_of HT_.out (by kernel_rfl)) (by decide) (fun K hK => ?_)
 have hs46 : w45.cell? ⟨gb286, 0, none⟩ = some (.int .i64 0) := (blk_cell BK286.out 0).trans rfl
 have hfs46 := blk_frozen BK286.out 0
 have hns46_1 := NB287_286.out
 have hms46_1 := NB286_287.out
 have hs47 : w45.cell? ⟨gb286, 1, none⟩ = some (.int .i64 0) := (blk_cell BK286.out 1).trans rfl
 have hfs47 := blk_frozen BK286.out 1
 have hns47_1 := NB287_286.out
 have hms47_1 := NB286_287.out
 have hs48 : w45.cell? ⟨gb286, 2, none⟩ = some (.int .i64 0) := (blk_cell BK286.out 2).trans rfl
 have hfs48 := blk_frozen BK286.out 2
 have hns48_1 := NB287_286.out
 have hms48_1 := NB286_287.out
 have hs49 : w45.cell? ⟨gb286, 3, none⟩ = some (.int .i64 0) := (blk_cell BK286.out 3).trans rfl
 have hfs49 := blk_frozen BK286.out 3
 have hns49_1 := NB287_286.out
 have hms49_1 := NB286_287.out
 refine skip_ (w1 := ?_) (by rfl) rfl ?_ ?_
 rotate_left
 ·go_simp
  rfl
 refine hK.out _ _ ⟨((cell_far (p := ⟨gb286, _, none⟩) (bne_ hw284_0 GW286.out) _).trans (((cell_far (p := ⟨gb286, _, none⟩) (bne_ hw284_0 GW286.out) _).trans (((cell_far (p := ⟨gb286, _, none⟩) (bne_ hw284_0 GW286.out) _).trans (((cell_far (p := ⟨gb286, _, none⟩) (bne_ hw284_0 GW286.out) _).trans (hHeld.1)))))))), ((cell_far (p := ⟨gb286, _, none⟩) (bne_ hw284_1 GW286.out) _).trans (((cell_far (p := ⟨gb286, _, none⟩) (bne_ hw284_1 GW286.out) _).trans (((cell_far (p := ⟨gb286, _, none⟩) (bne_ hw284_1 GW286.out) _).trans (((cell_far (p := ⟨gb286, _, none⟩) (bne_ hw284_1 GW286.out) _).trans (hHeld.2.1)))))))), ((cell_far (p := ⟨gb286, _, none⟩) (bne_ hw284_2 GW286.out) _).trans (((cell_far (p := ⟨gb286, _, none⟩) (bne_ hw284_2 GW286.out) _).trans (((cell_far (p := ⟨gb286, _, none⟩) (bne_ hw284_2 GW286.out) _).trans (((cell_far (p := ⟨gb286, _, none⟩) (bne_ hw284_2 GW286.out) _).trans (hHeld.2.2.1)))))))), ((cell_far (p := ⟨gb286, _, none⟩) (bne_ hw284_3 GW286.out) _).trans (((cell_far (p := ⟨gb286, _, none⟩) (bne_ hw284_3 GW286.out) _).trans (((cell_far (p := ⟨gb286, _, none⟩) (bne_ hw284_3 GW286.out) _).trans (((cell_far (p := ⟨gb286, _, none⟩) (bne_ hw284_3 GW286.out) _).trans (hHeld.2.2.2.1)))))))), ((cell_far (p := ⟨gb286, _, none⟩) (bne_ hw285_0 GW286.out) _).trans (((cell_far (p := ⟨gb286, _, none⟩) (bne_ hw285_0 GW286.out) _).trans (((cell_far (p := ⟨gb286, _, none⟩) (bne_ hw285_0 GW286.out) _).trans (((cell_far (p := ⟨gb286, _, none⟩) (bne_ hw285_0 GW286.out) _).trans (hHeld.2.2.2.2.1)))))))), ((cell_far (p := ⟨gb286, _, none⟩) (bne_ hw285_1 GW286.out) _).trans (((cell_far (p := ⟨gb286, _, none⟩) (bne_ hw285_1 GW286.out) _).trans (((cell_far (p := ⟨gb286, _, none⟩) (bne_ hw285_1 GW286.out) _).trans (((cell_far (p := ⟨gb286, _, none⟩) (bne_ hw285_1 GW286.out) _).trans (hHeld.2.2.2.2.2.1)))))))), ((cell_far (p := ⟨gb286, _, none⟩) (bne_ hw285_2 GW286.out) _).trans (((cell_far (p := ⟨gb286, _, none⟩) (bne_ hw285_2 GW286.out) _).trans (((cell_far (p := ⟨gb286, _, none⟩) (bne_ hw285_2 GW286.out) _).trans (((cell_far (p := ⟨gb286, _, none⟩) (bne_ hw285_2 GW286.out) _).trans (hHeld.2.2.2.2.2.2.1)))))))), ((cell_far (p := ⟨gb286, _, none⟩) (bne_ hw285_3 GW286.out) _).trans (((cell_far (p := ⟨gb286, _, none⟩) (bne_ hw285_3 GW286.out) _).trans (((cell_far (p := ⟨gb286, _, none⟩) (bne_ hw285_3 GW286.out) _).trans (((cell_far (p := ⟨gb286, _, none⟩) (bne_ hw285_3 GW286.out) _).trans (hHeld.2.2.2.2.2.2.2))))))))⟩ (fun hHeld => ?_)
 clear hK K
 refine one_ (i := 11) (N := none) q38_13 rfl rfl (one_of HT_.out (by kernel_rfl)) (by decide) (fun K hK => ?_)
 have hs50 : w45.cell? ⟨gb287, 0, none⟩ = some (.int .i64 0) := (blk_cell BK287.out 0).trans rfl
 have hfs50 := blk_frozen BK287.out 0
 have hns50_0 := NB286_287.out
 have hms50_0 := NB287_286.out
 have hs51 : w45.cell? ⟨gb287, 1, none⟩ = some (.int .i64 0) := (blk_cell BK287.out 1).trans rfl
 have hfs51 := blk_frozen BK287.out 1
 have hns51_0 := NB286_287.out
 have hms51_0 := NB287_286.out
 have hs52 : w45.cell? ⟨gb287, 2, none⟩ = some (.int .i64 0) := (blk_cell BK287.out 2).trans rfl
 have hfs52 := blk_frozen BK287.out 2
 have hns52_0 := NB286_287.out
 have hms52_0 := NB287_286.out
 have hs53 : w45.cell? ⟨gb287, 3, none⟩ = some (.int .i64 0) := (blk_cell BK287.out 3).trans rfl
 have hfs53 := blk_frozen BK287.out 3
 have hns53_0 := NB286_287.out
 have hms53_0 := NB287_286.out
 refine skip_ (w1 := ?_) (by rfl) rfl ?_ ?_
 rotate_left
 ·go_simp
  rfl
 refine hK.out _ _ ⟨((cell_far (p := ⟨gb287, _, none⟩) (bne_ hw284_0 GW287.out) _).trans (((cell_far (p := ⟨gb287, _, none⟩) (bne_ hw284_0 GW287.out) _).trans (((cell_far (p := ⟨gb287, _, none⟩) (bne_ hw284_0 GW287.out) _).trans (((cell_far (p := ⟨gb287, _, none⟩) (bne_ hw284_0 GW287.out) _).trans (hHeld.1)))))))), ((cell_far (p := ⟨gb287, _, none⟩) (bne_ hw284_1 GW287.out) _).trans (((cell_far (p := ⟨gb287, _, none⟩) (bne_ hw284_1 GW287.out) _).trans (((cell_far (p := ⟨gb287, _, none⟩) (bne_ hw284_1 GW287.out) _).trans (((cell_far (p := ⟨gb287, _, none⟩) (bne_ hw284_1 GW287.out) _).trans (hHeld.2.1)))))))), ((cell_far (p := ⟨gb287, _, none⟩) (bne_ hw284_2 GW287.out) _).trans (((cell_far (p := ⟨gb287, _, none⟩) (bne_ hw284_2 GW287.out) _).trans (((cell_far (p := ⟨gb287, _, none⟩) (bne_ hw284_2 GW287.out) _).trans (((cell_far (p := ⟨gb287, _, none⟩) (bne_ hw284_2 GW287.out) _).trans (hHeld.2.2.1)))))))), ((cell_far (p := ⟨gb287, _, none⟩) (bne_ hw284_3 GW287.out) _).trans (((cell_far (p := ⟨gb287, _, none⟩) (bne_ hw284_3 GW287.out) _).trans (((cell_far (p := ⟨gb287, _, none⟩) (bne_ hw284_3 GW287.out) _).trans (((cell_far (p := ⟨gb287, _, none⟩) (bne_ hw284_3 GW287.out) _).trans (hHeld.2.2.2.1)))))))), ((cell_far (p := ⟨gb287, _, none⟩) (bne_ hw285_0 GW287.out) _).trans (((cell_far (p := ⟨gb287, _, none⟩) (bne_ hw285_0 GW287.out) _).trans (((cell_far (p := ⟨gb287, _, none⟩) (bne_ hw285_0 GW287.out) _).trans (((cell_far (p := ⟨gb287, _, none⟩) (bne_ hw285_0 GW287.out) _).trans (hHeld.2.2.2.2.1)))))))), ((cell_far (p := ⟨gb287, _, none⟩) (bne_ hw285_1 GW287.out) _).trans (((cell_far (p := ⟨gb287, _, none⟩) (bne_ hw285_1 GW287.out) _).trans (((cell_far (p := ⟨gb287, _, none⟩) (bne_ hw285_1 GW287.out) _).trans (((cell_far (p := ⟨gb287, _, none⟩) (bne_ hw285_1 GW287.out) _).trans (hHeld.2.2.2.2.2.1)))))))), ((cell_far (p := ⟨gb287, _, none⟩) (bne_ hw285_2 GW287.out) _).trans (((cell_far (p := ⟨gb287, _, none⟩) (bne_ hw285_2 GW287.out) _).trans (((cell_far (p := ⟨gb287, _, none⟩) (bne_ hw285_2 GW287.out) _).trans (((cell_far (p := ⟨gb287, _, none⟩) (bne_ hw285_2 GW287.out) _).trans (hHeld.2.2.2.2.2.2.1)))))))), ((cell_far (p := ⟨gb287, _, none⟩) (bne_ hw285_3 GW287.out) _).trans (((cell_far (p := ⟨gb287, _, none⟩) (bne_ hw285_3 GW287.out) _).trans (((cell_far (p := ⟨gb287, _, none⟩) (bne_ hw285_3 GW287.out) _).trans (((cell_far (p := ⟨gb287, _, none⟩) (bne_ hw285_3 GW287.out) _).trans (hHeld.2.2.2.2.2.2.2))))))))⟩ (fun hHeld => ?_)
 clear hK K
 refine done_ (done_of HT_.out (by kernel_rfl)) ?_
 have hnb54 := NB286_287.out
 have hnc54 := NB287_286.out
 obtain ⟨hcz55_0, hcz55_1, hcz55_2, hcz55_3, hfz55_0, hfz55_1, hfz55_2, hfz55_3⟩ := bz4 BK286.out
 obtain ⟨hcz56_0, hcz56_1, hcz56_2, hcz56_3, hfz56_0, hfz56_1, hfz56_2, hfz56_3⟩ := bz4 BK287.out
 try go_wp2
 go_ret
 exact ⟨by first | rfl | (simp [errW_none, errW_some] <;> rfl) | (simp [*, errW_none, errW_some] <;> rfl), by repeat (first | (with_reducible first | exact bw HB.out | refine bset ?_ | apply bA | apply bN | apply bD) | exact HB.out)⟩

/-! ### spec_l3Order: function 33 -/
abbrev q33_0 : Array Bool := ⟨rl_ [12] false⟩
abbrev q33_1 : Array Bool := ⟨rl_ [6, 1, 3, 2] true⟩
abbrev q33_2 : Array Bool := ⟨rl_ [5, 2, 3, 2] true⟩
abbrev q33_3 : Array Bool := ⟨rl_ [3, 1, 2, 1, 3, 2] true⟩
abbrev q33_4 : Array Bool := ⟨rl_ [10, 2] true⟩
abbrev q33_5 : Array Bool := ⟨rl_ [11, 1] true⟩
/-- How many of a row a job stands behind. -/
def spec_l3Order.posR (l0 : List (S42)) (obj x : Int) : List Int → Option Nat
 | [] => some 0
 | y :: r => (spec_l3Gap.f l0 obj y x).bind fun g => if g ≤ 0 then (spec_l3Order.posR l0 obj x r).map (· + 1) else some 0
def spec_l3Order.go (l0 : List (S42)) (obj : Int) : Nat → Nat → List Int → Option (List Int)
 | 0, _, out => some out
 | d + 1, i, out => (spec_l3Order.posR l0 obj (i : Int) out).bind fun k => spec_l3Order.go l0 obj d (i + 1) (out.take k ++ (i : Int) :: out.drop k)
def spec_l3Order.f (l0 : List (S42)) (a1 : Int) : Option (List (Int)) := if l0.length ≤ 1000000 then spec_l3Order.go l0 a1 l0.length 0 [] else none
theorem spec_l3Order.posR_le (l0 : List (S42)) (obj x : Int) : ∀ (r : List Int) (k : Nat), spec_l3Order.posR l0 obj x r = some k → k ≤ r.length
 | [], k, h => by
  simp only [spec_l3Order.posR, Option.some.injEq] at h
  simp; omega
 | y :: r, k, h => by
  rw [spec_l3Order.posR] at h
  obtain ⟨g, hg, h⟩ := Option.bind_eq_some_iff.mp h
  split at h
  ·obtain ⟨j, hj, rfl⟩ := Option.map_eq_some_iff.mp h
   have := spec_l3Order.posR_le l0 obj x r j hj
   simp; omega
  ·simp only [Option.some.injEq] at h
   omega
theorem spec_l3Order.bS {w' w : World} {P : Nat → Prop} {v : Value} {xs : List Int} {base : Nat} (h : Kd.R (Kd.int .i64) 3 w base P v xs) [k : Bs w' w] : Kd.R (Kd.int .i64) 3 w' base P v xs := bR h
set_option maxHeartbeats 8000000 in
set_option maxRecDepth 100000 in
theorem spec_l3Order.calls (A0 : Option Addr) (c0 : Nat) (l0 : List (S42)) (a1 : Int) (r : List (Int)) (w : World) (hr0 : Kd.C k42 w A0 l0.length l0) (hc0 : l0.length ≤ c0) (h : spec_l3Order.f l0 a1 = some r) :
  Calls Try.prog 33 #[.slice A0 l0.length c0, .int .i64 a1] w fun e w' => ∃ v0_ : Value, e = .returned (v0_) ∧ Kd.R (Kd.int .i64) 3 w' w.heap.size (fun _ => True) v0_ r ∧ Below w.heap.size w w' := by
 unfold spec_l3Order.f at h
 split at h
 case isFalse => cases h
 case isTrue hn =>
 have HR0 := Aside0.mk hr0
 have HC0 := Aside0.mk hc0
 have HL := Aside0.mk hn
 have H' := Aside0.mk h
 have HB := Aside0.mk (Below.refl w.heap.size w)
 clear hr0 hc0 hn h
 go_enter Try.func33, Try.ntmps33
 go_wp2_with ((with_reducible refine gate_dst (N := 8) rfl ?_); refine Kd.R_lit (Kd.int .i64) _ 3 ?hg (N := 8) ?hd (xs := ([] : List Int)) (inner := []) (ok := fun _ => True) (okp := fun _ => True) ?hr ?hp (fun _ hk => hk) trivial (Below.refl _ _) (Nat.le_refl _) (by simp) ?_; (case hd => rfl); (case hg => rfl); (case hr => first | (go_simp; done) | (go_simp; rfl)); (case hp => exact (Reps.none _ _)); intro v8 w3 ho4 hb hg_ hnew_; clear hg_ hnew_; have HR := Aside0.mk (Kd.R_lower ho4 (below_size (bw HB.out))); have n1_ := Aside0.mk (below_step (bw HB.out) hb); replace HB := n1_; clear n1_ hb ho4)
 go_loopg [5, 6] l0.length (fun kq v5 v6 w' => ∃ (i : Nat) (out : List Int), v6 = .int .i64 (i : Int) ∧ Aside0 (i + kq = l0.length) ∧ Aside0 (out.length = i) ∧ Aside0 (spec_l3Order.go l0 a1 kq i out = some r) ∧ Aside0 (Kd.R (Kd.int .i64) 3 w' w.heap.size (fun _ => True) v5 out) ∧ Aside0 (Below w.heap.size w w'))
 case atStart => exact ⟨0, [], rfl, ⟨Nat.zero_add _⟩, ⟨rfl⟩, H', HR, HB⟩
 case round =>
  clear H' HB HR
  obtain ⟨i, out, rfl, HI, HO, H, HR, HB⟩ := hrel
  have hi0 := HI.out
  have hln := HL.out
  have hol := HO.out
  cases gk with
  | zero =>
   have e3 : decide ((i : Int) < (l0.length : Int)) = false := decide_eq_false (by omega)
   have e3n : decide (i < l0.length) = false := decide_eq_false (by omega)
   obtain rfl : out = r := by
    have := H.out
    simpa [spec_l3Order.go] using this
   clear hi0 hln hol
   go_wp2
   go_ret
   exact ⟨_, rfl, HR.out, HB.out⟩
  | succ kq =>
   have e3 : decide ((i : Int) < (l0.length : Int)) = true := decide_eq_true (by omega)
   have e3n : decide (i < l0.length) = true := decide_eq_true (by omega)
   obtain ⟨kk, hkk, hrest⟩ := Option.bind_eq_some_iff.mp (show (spec_l3Order.posR l0 a1 (i : Int) out).bind _ = some r from H.out)
   have HK := Aside0.mk hkk
   have HS := Aside0.mk hrest
   have HKL := Aside0.mk (spec_l3Order.posR_le _ _ _ _ _ hkk)
   clear hkk hrest
   obtain ⟨Ao, co, eo⟩ := Kd.R_slice HR.out
   subst eo
   clear hi0 hln hol
   go_wp2
   go_loopg [7] out.length (fun q v7 w' => ∃ (j : Nat) (rest : List Int) (k2 : Nat), v7 = .int .i64 (j : Int) ∧ Aside0 (j + q = out.length) ∧ Aside0 (rest = out.drop j) ∧ Aside0 (spec_l3Order.posR l0 a1 (i : Int) rest = some k2 ∧ j + k2 = kk) ∧ Aside0 (Kd.R (Kd.int .i64) 3 w' w.heap.size (fun _ => True) (.slice Ao out.length co) out) ∧ Aside0 (Below w.heap.size w w'))
   case atStart => exact ⟨0, out, kk, rfl, ⟨Nat.zero_add _⟩, ⟨rfl⟩, ⟨HK.out, Nat.zero_add _⟩, HR, HB⟩
   case round =>
    clear HK HR HB
    obtain ⟨j, rest, k2, rfl, HJ, HRest, HK, HR, HB⟩ := hrel
    have hj := HJ.out
    have hln := HL.out
    have hol := HO.out
    have hi0 := HI.out
    by_cases hcont : ∃ y r2 g, rest = y :: r2 ∧ spec_l3Gap.f l0 a1 y (i : Int) = some g ∧ g ≤ 0
    ·obtain ⟨y, r2, g, hr2, hgap, hg0⟩ := hcont
     have hjl : j < out.length := by
      have := congrArg List.length (hr2.symm.trans HRest.out)
      simp only [List.length_cons, List.length_drop] at this
      omega
     have d1 : decide ((j : Int) < (out.length : Int)) = true := decide_eq_true (by omega)
     have d1n : decide (j < out.length) = true := decide_eq_true (by omega)
     have q1n := eq_true (show j < out.length by omega)
     have p1 : 0 ≤ (j : Int) := by omega
     have q1 : (j : Int) < (out.length : Int) := by omega
     obtain ⟨ad, ea, hxc⟩ := Kd.at_int (Kd.R_reads' HR.out).2.2 (j : Int) p1 q1
     have hy : rd out (j : Int) = y := by
      have h1 : out.drop j = y :: r2 := by rw [← HRest.out, hr2]
      have h2 : out[j]? = some y := by rw [← List.head?_drop, h1]; rfl
      simp only [rd, Int.toNat_natCast, List.getD_eq_getElem?_getD, h2, Option.getD_some]
     rw [hy, Int.toNat_natCast] at hxc
     cases ea
     have HK2 : Aside0 (spec_l3Order.posR l0 a1 (i : Int) r2 = some (k2 - 1) ∧ j + 1 + (k2 - 1) = kk) := ⟨by
      have h1 := HK.out.1
      rw [hr2, spec_l3Order.posR, hgap, Option.bind_some, if_pos hg0] at h1
      obtain ⟨z, hz, e⟩ := Option.map_eq_some_iff.mp h1
      have h2 := HK.out.2
      subst e
      exact ⟨hz, by omega⟩⟩
     have HR2 : Aside0 (r2 = out.drop (j + 1)) := ⟨by
      have h1 : out.drop j = y :: r2 := by rw [← HRest.out, hr2]
      rw [← List.drop_drop, h1]; rfl⟩
     have g1 : decide (g ≤ 0) = true := decide_eq_true hg0
     have HGAP := Aside0.mk hgap
     have hw : wrap64 ((j : Int) + 1) = ((j + 1 : Nat) : Int) := by unfold wrap64; omega
     have hw2 : IntKind.i64.wrap ((j : Int) + 1) = ((j + 1 : Nat) : Int) := (i64_w _).trans hw
     have p1b := eq_true p1
     have q1b := eq_true q1
     have HJ2 := Aside0.mk (show (j + 1) + (gk - 1) = out.length ∧ gk - 1 < gk from by omega)
     clear hj hln hol hi0 hgap hr2 hy hjl
     go_wp2_with (go_at_call 38; (with_reducible refine (spec_l3Gap.calls A0 c0 l0 a1 y (i : Int) g _ ?side1 ?side2 HGAP.out).mono ?_); (case side1 => exact bC HR0.out HB.out); (case side2 => exact HC0.out); rintro e w' ⟨rfl, hbc⟩; have n0 := Aside0.mk (Kd.R_below (bR HR.out) hbc); have n1 := Aside0.mk (below_step (bw HB.out) hbc); clear hbc HR HB; have HR := n0; have HB := n1; clear n0 n1)
     go_roundg (gk - 1)
     case measure => exact HJ2.out.2
     case rel => exact ⟨j + 1, r2, k2 - 1, (by simp), ⟨HJ2.out.1⟩, HR2, HK2, HR, HB⟩
    -- the place is found
    have HJK : Aside0 (j = kk ∧ kk ≤ out.length) := ⟨by
     have h1 := HK.out.1
     have h2 := HK.out.2
     have h3 := HKL.out
     cases rest with
     | nil =>
      simp only [spec_l3Order.posR, Option.some.injEq] at h1
      omega
     | cons y r2 =>
      rw [spec_l3Order.posR] at h1
      obtain ⟨g, hg, h1⟩ := Option.bind_eq_some_iff.mp h1
      have hn : ¬ g ≤ 0 := fun h => hcont ⟨y, r2, g, rfl, hg, h⟩
      rw [if_neg hn] at h1
      simp only [Option.some.injEq] at h1
      omega⟩
    by_cases hje : j < out.length
    rotate_left
    ·have d1 : decide ((j : Int) < (out.length : Int)) = false := decide_eq_false (by omega)
     have d1n : decide (j < out.length) = false := decide_eq_false hje
     clear hj hln hol hi0 hje hcont
     go_wp2
     have HCC := Aside0.mk (Kd.R_reads' HR.out).2.1
     obtain ⟨hjk, hkl⟩ := HJK.out
     subst hjk
     have hiL : i < l0.length := by have := HI.out; omega
     have HW := Aside0.mk (show wrap64 ((i : Int) + 1) = ((i + 1 : Nat) : Int) from by have := HL.out; unfold wrap64; omega)
     have HLEN := Aside0.mk (show (out.take j ++ (i : Int) :: out.drop j).length = i + 1 from by have := HO.out; simp only [List.length_append, List.length_take, List.length_cons, List.length_drop]; omega)
     have HAP := Aside0.mk (show (out.take j ++ [(i : Int)]).length + (out.length - j) ≤ 1000001 from by have := HO.out; have := HL.out; simp only [List.length_append, List.length_take, List.length_cons, List.length_nil]; omega)
     have hcL := HCC.out
     have hoM : out.length ≤ 1000000 := by have := HO.out; have := HL.out; omega
     have AOWN := Aside0.mk (show spec_l1Own.f (out.take j) = some (out.take j) from by
      unfold spec_l1Own.f
      rw [Option.bind_some, List.length_nil, List.length_take, if_pos (by omega)]
      rfl)
     have s1 := eq_true (show 0 ≤ (j : Int) by omega)
     have s2 := eq_true (show (j : Int) ≤ (out.length : Int) by omega)
     have s3 := eq_true (show (j : Int) ≤ (co : Int) by omega)
     have s4 := eq_true (show j ≤ co by omega)
     have s5 := eq_true (show j ≤ out.length by omega)
     have s6 := eq_true (show out.length ≤ co by omega)
     have s7 := eq_true (show (out.length : Int) ≤ (co : Int) by omega)
     have n0 := Aside0.mk (Kd.R_drew HR.out)
     have n1 := Aside0.mk (below_drew1 HB.out)
     replace HR := n0
     replace HB := n1
     clear n0 n1 HK HJ HRest
     refine start_ (n := 12) (S := fun _ => True) (ds := []) q33_0 (by kernel_rfl) rfl rfl trivial (fun hHeld => ?_)
     generalize wr.drew = w25 at HR HB hHeld ⊢
     refine puq_ (i := 0) (N := some 32) (v := ?_) (a' := ?_) rfl rfl (by kernel_rfl) (fun _ _ _ h => h) (Or.inl ⟨by rfl, ?_⟩) ?_ ?_
     rotate_left
     ·intro w'
      go_simp
      with_reducible rfl
     rotate_left
     ·simp only [aq_]
      rfl
     refine puq_ (i := 1) (N := some 33) (v := ?_) (a' := ?_) rfl rfl (by kernel_rfl) (fun _ _ _ h => h) (Or.inl ⟨by rfl, ?_⟩) ?_ ?_
     rotate_left
     ·intro w'
      go_simp
      with_reducible rfl
     rotate_left
     ·simp only [aq_]
      rfl
     refine puq_ (i := 2) (N := some 34) (v := ?_) (a' := ?_) rfl rfl (by kernel_rfl) (fun _ _ _ h => h) (Or.inl ⟨by rfl, ?_⟩) ?_ ?_
     rotate_left
     ·intro w'
      go_simp
      with_reducible rfl
     rotate_left
     ·simp only [aq_]
      rfl
     refine puq_ (i := 4) (N := some 36) (v := ?_) (a' := ?_) rfl rfl (by kernel_rfl) (fun _ _ _ h => h) (Or.inl ⟨by rfl, ?_⟩) ?_ ?_
     rotate_left
     ·intro w'
      go_simp
      with_reducible rfl
     rotate_left
     ·simp only [aq_]
      rfl
     refine puq_ (i := 7) (N := some 39) (v := ?_) (a' := ?_) rfl rfl (by kernel_rfl) (fun _ _ _ h => h) (Or.inl ⟨by rfl, ?_⟩) ?_ ?_
     rotate_left
     ·intro w'
      go_simp
      with_reducible rfl
     rotate_left
     ·simp only [aq_]
      rfl
     refine puq_ (i := 8) (N := some 40) (v := ?_) (a' := ?_) rfl rfl (by kernel_rfl) (fun _ _ _ h => h) (Or.inl ⟨by rfl, ?_⟩) ?_ ?_
     rotate_left
     ·intro w'
      go_simp
      with_reducible rfl
     rotate_left
     ·simp only [aq_]
      rfl
     refine puq_ (i := 9) (N := some 41) (v := ?_) (a' := ?_) rfl rfl (by kernel_rfl) (fun _ _ _ h => h) (Or.inl ⟨by rfl, ?_⟩) ?_ ?_
     rotate_left
     ·intro w'
      go_simp
      with_reducible rfl
     rotate_left
     ·simp only [aq_]
      rfl
     refine join_ (σ := Value × Value) 3 q33_1 (fun s_ => [(35, s_.1), (37, s_.2)]) (fun s_ w' => Kd.R (Kd.int .i64) 3 w' w.heap.size (fun _ => True) s_.1 (out.take j) ∧ Kd.R (Kd.int .i64) 3 w' w.heap.size (fun _ => True) s_.2 [(i : Int)] ∧ Kd.R (Kd.int .i64) 3 w' w.heap.size (fun k_ => some k_ ≠ s_.1.ownBlock) (.slice Ao out.length co) out ∧ Below w.heap.size w w') ?_ ?_
     rotate_left
     ·intro hCont
      refine two_ (i := 3) (j := 5) (Ni := some 35) (Nj := some 37) q33_2 q33_3 rfl rfl rfl rfl (by kernel_rfl) (by decide) (by decide) (fun K hK => ?_) (fun K hK => ?_)
      ·skip
       refine goes_ Try.func20 (by kernel_rfl) rfl #[.slice Ao j co] (by rfl) rfl rfl (by (try simp only [mA_]); first | done | rfl | (simp only [List.length_drop, List.length_take]; rfl)) ?_
       refine calls_args (a' := #[.slice Ao (out.take j).length co]) (by rw [List.length_take, Nat.min_eq_left hkl]) ?_
       with_reducible refine (spec_l1Own.calls Ao co (out.take j) (out.take j) _ ?side1 ?side2 AOWN.out).mono ?_
       case side1 => exact (Kd.R_reads' (Kd.R_take (bR HR.out) hkl)).2.2
       case side2 => rw [List.length_take]; omega
       rintro e w35 ⟨v35, rfl, ho0, hb⟩
       refine ⟨_, rfl, ?_⟩
       have n0 := Aside0.mk (Kd.R_elder' (bR HR.out) (Kd.R_base ho0) hb)
       have n1 := Aside0.mk (Kd.R_lower ho0 (below_size (bw HB.out)))
       have n2 := Aside0.mk (below_step (bw HB.out) hb)
       replace HR := n0
       have HO35 := n1
       replace HB := n2
       clear n0 n1 n2 hb ho0
       refine hK.out _ _ trivial (fun hHeld => ?_)
       clear hK K
       refine norm_ (a' := ?_) ?_ ?_
       rotate_left
       ·show Act.put _ (some 35) _ = _
        simp only [aq_]
        rfl
       refine one_ (i := 5) (N := some 37) q33_1 rfl rfl (by kernel_rfl) (by decide) (fun K hK => ?_)
       refine Kd.R_lit_step (Kd.int .i64) _ 3 ?hg (N := 37) ?hd (xs := ([(i : Int)] : List Int)) (inner := [.int .i64 (i : Int)]) (ok := fun _ => True) (okp := fun _ => True) ?hr ?hp (fun _ hk => hk) trivial (Below.refl _ _) (Nat.le_refl _) (by simp) ?_
       case hd => rfl
       case hg => rfl
       case hr => first | (go_simp; done) | (go_simp; rfl)
       case hp => exact (Reps.one (show Kd.M (Kd.int .i64) _ _ _ (i : Int) [.int .i64 (i : Int)] from rfl) (Reps.none _ _))
       intro v37 w37 ho4 hb2 hg_ hnew_
       clear hg_ hnew_
       have m0 := Aside0.mk (Kd.R_below (bR HR.out) hb2)
       have m1 := Aside0.mk (Kd.R_lower ho4 (below_size (bw HB.out)))
       have m2 := Aside0.mk (below_step (bw HB.out) hb2)
       have m3 := Aside0.mk (Kd.R_below (bR HO35.out) hb2)
       replace HR := m0
       have HO37 := m1
       replace HB := m2
       replace HO35 := m3
       clear m0 m1 m2 m3 hb2 ho4
       refine hK.out _ _ trivial (fun hHeld => ?_)
       clear hK K
       refine norm_ (a' := ?_) ?_ ?_
       rotate_left
       ·show Act.put _ (some 37) _ = _
        simp only [aq_]
        rfl
       exact norm_ (by simp only [putAll, Act.put, List.setIfInBounds_toArray, List.set_cons_zero, List.set_cons_succ]) (hCont (v35, v37) _ ⟨bR HO35.out, bR HO37.out, (by first | exact Kd.R_mono HR.out (fun _ hk => hk.2) | exact Kd.R_mono (bR HR.out) (fun _ hk => hk.2)), bw HB.out⟩)
      ·skip
       refine Kd.R_lit_step (Kd.int .i64) _ 3 ?hg (N := 37) ?hd (xs := ([(i : Int)] : List Int)) (inner := [.int .i64 (i : Int)]) (ok := fun _ => True) (okp := fun _ => True) ?hr ?hp (fun _ hk => hk) trivial (Below.refl _ _) (Nat.le_refl _) (by simp) ?_
       case hd => rfl
       case hg => rfl
       case hr => first | (go_simp; done) | (go_simp; rfl)
       case hp => exact (Reps.one (show Kd.M (Kd.int .i64) _ _ _ (i : Int) [.int .i64 (i : Int)] from rfl) (Reps.none _ _))
       intro v37 w37 ho4 hb2 hg_ hnew_
       clear hg_ hnew_
       have m0 := Aside0.mk (Kd.R_below (bR HR.out) hb2)
       have m1 := Aside0.mk (Kd.R_lower ho4 (below_size (bw HB.out)))
       have m2 := Aside0.mk (below_step (bw HB.out) hb2)
       replace HR := m0
       have HO37 := m1
       replace HB := m2
       clear m0 m1 m2 hb2 ho4
       refine hK.out _ _ trivial (fun hHeld => ?_)
       clear hK K
       refine norm_ (a' := ?_) ?_ ?_
       rotate_left
       ·show Act.put _ (some 37) _ = _
        simp only [aq_]
        rfl
       refine one_ (i := 3) (N := some 35) q33_1 rfl rfl (by kernel_rfl) (by decide) (fun K hK => ?_)
       refine goes_ Try.func20 (by kernel_rfl) rfl #[.slice Ao j co] (by rfl) rfl rfl (by (try simp only [mA_]); first | done | rfl | (simp only [List.length_drop, List.length_take]; rfl)) ?_
       refine calls_args (a' := #[.slice Ao (out.take j).length co]) (by rw [List.length_take, Nat.min_eq_left hkl]) ?_
       with_reducible refine (spec_l1Own.calls Ao co (out.take j) (out.take j) _ ?side1 ?side2 AOWN.out).mono ?_
       case side1 => exact (Kd.R_reads' (Kd.R_take (bR HR.out) hkl)).2.2
       case side2 => rw [List.length_take]; omega
       rintro e w35 ⟨v35, rfl, ho0, hb⟩
       refine ⟨_, rfl, ?_⟩
       have n0 := Aside0.mk (Kd.R_elder' (bR HR.out) (Kd.R_base ho0) hb)
       have n1 := Aside0.mk (Kd.R_lower ho0 (below_size (bw HB.out)))
       have n2 := Aside0.mk (below_step (bw HB.out) hb)
       have n3 := Aside0.mk (Kd.R_below (bR HO37.out) hb)
       replace HR := n0
       have HO35 := n1
       replace HB := n2
       replace HO37 := n3
       clear n0 n1 n2 n3 hb ho0
       refine hK.out _ _ trivial (fun hHeld => ?_)
       clear hK K
       refine norm_ (a' := ?_) ?_ ?_
       rotate_left
       ·show Act.put _ (some 35) _ = _
        simp only [aq_]
        rfl
       exact norm_ (by simp only [putAll, Act.put, List.setIfInBounds_toArray, List.set_cons_zero, List.set_cons_succ]) (hCont (v35, v37) _ ⟨bR HO35.out, bR HO37.out, (by first | exact Kd.R_mono HR.out (fun _ hk => hk.2) | exact Kd.R_mono (bR HR.out) (fun _ hk => hk.2)), bw HB.out⟩)
     clear HR HB
     rintro ⟨v35, v37⟩ w38 ⟨h35, h37, hR8, hB8⟩
     obtain ⟨A37, c37, e37⟩ := Kd.R_slice h37
     subst e37
     refine norm_ (a' := ?_) (by simp only [putAll, Act.put, List.setIfInBounds_toArray, List.set_cons_zero, List.set_cons_succ]; rfl) ?_
     refine one_ (i := 6) (N := some 38) q33_4 rfl rfl (by kernel_rfl) (by decide) (fun K hK => ?_)
     refine Kd.R_append_rows_step (Kd.int .i64) (w0 := w) w.heap.size (by rfl) (.tmp 35) (.tmp 37) 25 3 (.int .i64 0) 8 rfl Try.underlying25 info3 rfl (by decide) (by omega) v35 (out.take j) [(i : Int)] _ _ _ (fun _ => True) (fun _ => False) rfl rfl ?aO ?aR (fun _ _ h => h) (fun _ h => h.elim) ?aF ?aB ?aS ?aL ?_
     case aO => exact h35
     case aR => exact (Kd.R_reads' h37).2.2
     case aF => exact (fun _ _ => trivial)
     case aB => exact hB8
     case aS => exact below_size hB8
     case aL => simp only [List.length_take, List.length_cons, List.length_nil]; omega
     intro v38 w39 ho38 hb38 hg38 hat38
     have hR9 := Kd.R_after (ok := fun _ => True) (Kd.R_mono hR8 (fun _ hk => ⟨trivial, hk⟩)) hg38 hat38
     clear hg38 hat38 h35 h37 hR8 hB8
     refine hK.out _ _ trivial (fun hHeld => ?_)
     clear hK K
     refine norm_ (a' := ?_) ?_ ?_
     rotate_left
     ·show Act.put _ (some 38) _ = _
      simp only [aq_]
      rfl
     refine one_ (i := 10) (N := some 42) q33_5 rfl rfl (by kernel_rfl) (by decide) (fun K hK => ?_)
     refine Kd.R_append_rows_step (Kd.int .i64) (w0 := w) w.heap.size (by rfl) (.tmp 38) (.tmp 41) 25 3 (.int .i64 0) 8 rfl Try.underlying25 info3 rfl (by decide) (by omega) v38 (out.take j ++ [(i : Int)]) (out.drop j) _ _ _ (fun _ => True) (fun _ => False) rfl rfl ?aO ?aR (fun _ _ h => h) (fun _ h => h.elim) ?aF ?aB ?aS ?aL ?_
     case aO => exact ho38
     case aR =>
      have hcd := Kd.C_drop (Kd.R_reads' hR9).2.2 hkl hcL
      rw [List.length_drop] at hcd
      simp only [show (Kd.int .i64).sz = 1 from rfl, Nat.mul_one] at hcd
      exact hcd
     case aF => exact (fun _ _ => trivial)
     case aB => exact hb38
     case aS => exact below_size hb38
     case aL => have := HAP.out; omega
     intro v42 w43 ho42 hb42 hg42 hat42
     clear hg42 hat42 ho38 hb38 hR9
     refine hK.out _ _ trivial (fun hHeld => ?_)
     clear hK K
     refine norm_ (a' := ?_) ?_ ?_
     rotate_left
     ·show Act.put _ (some 42) _ = _
      simp only [aq_]
      rfl
     refine puq_ (i := 11) (N := some 5) (v := ?_) (a' := ?_) rfl rfl (by kernel_rfl) (fun _ _ _ h => h) (Or.inl ⟨by rfl, ?_⟩) ?_ ?_
     rotate_left
     ·intro w'
      go_simp
      with_reducible rfl
     rotate_left
     ·simp only [aq_]
      rfl
     refine done_ (by kernel_rfl) ?_
     have HR := Aside0.mk ho42
     have HB := Aside0.mk hb42
     clear ho42 hb42
     go_wp2
     all_goals (go_roundg kq; (case measure => omega); (case rel => exact ⟨i + 1, out.take j ++ (i : Int) :: out.drop j, (by first | rfl | rw [HW.out]), ⟨by have := HI.out; omega⟩, HLEN, HS, ⟨by have := HR.out; simpa using this⟩, HB⟩))
    obtain ⟨y, hy, g, hgap, hg0⟩ : ∃ y, out[j]? = some y ∧ ∃ g, spec_l3Gap.f l0 a1 y (i : Int) = some g ∧ ¬ g ≤ 0 := by
     have h1 := HK.out.1
     have h4 : out[j]? = some out[j] := List.getElem?_eq_getElem hje
     have h5 : rest = out[j] :: out.drop (j + 1) := by rw [HRest.out]; exact List.drop_eq_getElem_cons hje
     rw [h5, spec_l3Order.posR] at h1
     obtain ⟨g, hg, h1⟩ := Option.bind_eq_some_iff.mp h1
     exact ⟨_, h4, g, hg, fun h => hcont ⟨_, _, g, h5, hg, h⟩⟩
    have d1 : decide ((j : Int) < (out.length : Int)) = true := decide_eq_true (by omega)
    have d1n : decide (j < out.length) = true := decide_eq_true (by omega)
    have q1n := eq_true (show j < out.length by omega)
    have p1 : 0 ≤ (j : Int) := by omega
    have q1 : (j : Int) < (out.length : Int) := by omega
    obtain ⟨ad, ea, hxc⟩ := Kd.at_int (Kd.R_reads' HR.out).2.2 (j : Int) p1 q1
    have hy2 : rd out (j : Int) = y := by simp only [rd, Int.toNat_natCast, List.getD_eq_getElem?_getD, hy, Option.getD_some]
    rw [hy2, Int.toNat_natCast] at hxc
    cases ea
    have g1 : decide (g ≤ 0) = false := decide_eq_false hg0
    have HGAP := Aside0.mk hgap
    have p1b := eq_true p1
    have q1b := eq_true q1
    clear hj hln hol hi0 hgap hy hy2 hje hcont
    go_wp2_with (go_at_call 38; (with_reducible refine (spec_l3Gap.calls A0 c0 l0 a1 y (i : Int) g _ ?side1 ?side2 HGAP.out).mono ?_); (case side1 => exact bC HR0.out HB.out); (case side2 => exact HC0.out); rintro e w' ⟨rfl, hbc⟩; have n0 := Aside0.mk (Kd.R_below (bR HR.out) hbc); have n1 := Aside0.mk (below_step (bw HB.out) hbc); clear hbc HR HB; have HR := n0; have HB := n1; clear n0 n1)
    have HCC := Aside0.mk (Kd.R_reads' HR.out).2.1
    obtain ⟨hjk, hkl⟩ := HJK.out
    subst hjk
    have hiL : i < l0.length := by have := HI.out; omega
    have HW := Aside0.mk (show wrap64 ((i : Int) + 1) = ((i + 1 : Nat) : Int) from by have := HL.out; unfold wrap64; omega)
    have HLEN := Aside0.mk (show (out.take j ++ (i : Int) :: out.drop j).length = i + 1 from by have := HO.out; simp only [List.length_append, List.length_take, List.length_cons, List.length_drop]; omega)
    have HAP := Aside0.mk (show (out.take j ++ [(i : Int)]).length + (out.length - j) ≤ 1000001 from by have := HO.out; have := HL.out; simp only [List.length_append, List.length_take, List.length_cons, List.length_nil]; omega)
    have hcL := HCC.out
    have hoM : out.length ≤ 1000000 := by have := HO.out; have := HL.out; omega
    have AOWN := Aside0.mk (show spec_l1Own.f (out.take j) = some (out.take j) from by
     unfold spec_l1Own.f
     rw [Option.bind_some, List.length_nil, List.length_take, if_pos (by omega)]
     rfl)
    have s1 := eq_true (show 0 ≤ (j : Int) by omega)
    have s2 := eq_true (show (j : Int) ≤ (out.length : Int) by omega)
    have s3 := eq_true (show (j : Int) ≤ (co : Int) by omega)
    have s4 := eq_true (show j ≤ co by omega)
    have s5 := eq_true (show j ≤ out.length by omega)
    have s6 := eq_true (show out.length ≤ co by omega)
    have s7 := eq_true (show (out.length : Int) ≤ (co : Int) by omega)
    have n0 := Aside0.mk (Kd.R_drew HR.out)
    have n1 := Aside0.mk (below_drew1 HB.out)
    replace HR := n0
    replace HB := n1
    clear n0 n1 HK HJ HRest
    refine start_ (n := 12) (S := fun _ => True) (ds := []) q33_0 (by kernel_rfl) rfl rfl trivial (fun hHeld => ?_)
    generalize w'.drew = w25 at HR HB hHeld ⊢
    refine puq_ (i := 0) (N := some 32) (v := ?_) (a' := ?_) rfl rfl (by kernel_rfl) (fun _ _ _ h => h) (Or.inl ⟨by rfl, ?_⟩) ?_ ?_
    rotate_left
    ·intro w'
     go_simp
     with_reducible rfl
    rotate_left
    ·simp only [aq_]
     rfl
    refine puq_ (i := 1) (N := some 33) (v := ?_) (a' := ?_) rfl rfl (by kernel_rfl) (fun _ _ _ h => h) (Or.inl ⟨by rfl, ?_⟩) ?_ ?_
    rotate_left
    ·intro w'
     go_simp
     with_reducible rfl
    rotate_left
    ·simp only [aq_]
     rfl
    refine puq_ (i := 2) (N := some 34) (v := ?_) (a' := ?_) rfl rfl (by kernel_rfl) (fun _ _ _ h => h) (Or.inl ⟨by rfl, ?_⟩) ?_ ?_
    rotate_left
    ·intro w'
     go_simp
     with_reducible rfl
    rotate_left
    ·simp only [aq_]
     rfl
    refine puq_ (i := 4) (N := some 36) (v := ?_) (a' := ?_) rfl rfl (by kernel_rfl) (fun _ _ _ h => h) (Or.inl ⟨by rfl, ?_⟩) ?_ ?_
    rotate_left
    ·intro w'
     go_simp
     with_reducible rfl
    rotate_left
    ·simp only [aq_]
     rfl
    refine puq_ (i := 7) (N := some 39) (v := ?_) (a' := ?_) rfl rfl (by kernel_rfl) (fun _ _ _ h => h) (Or.inl ⟨by rfl, ?_⟩) ?_ ?_
    rotate_left
    ·intro w'
     go_simp
     with_reducible rfl
    rotate_left
    ·simp only [aq_]
     rfl
    refine puq_ (i := 8) (N := some 40) (v := ?_) (a' := ?_) rfl rfl (by kernel_rfl) (fun _ _ _ h => h) (Or.inl ⟨by rfl, ?_⟩) ?_ ?_
    rotate_left
    ·intro w'
     go_simp
     with_reducible rfl
    rotate_left
    ·simp only [aq_]
     rfl
    refine puq_ (i := 9) (N := some 41) (v := ?_) (a' := ?_) rfl rfl (by kernel_rfl) (fun _ _ _ h => h) (Or.inl ⟨by rfl, ?_⟩) ?_ ?_
    rotate_left
    ·intro w'
     go_simp
     with_reducible rfl
    rotate_left
    ·simp only [aq_]
     rfl
    refine join_ (σ := Value × Value) 3 q33_1 (fun s_ => [(35, s_.1), (37, s_.2)]) (fun s_ w' => Kd.R (Kd.int .i64) 3 w' w.heap.size (fun _ => True) s_.1 (out.take j) ∧ Kd.R (Kd.int .i64) 3 w' w.heap.size (fun _ => True) s_.2 [(i : Int)] ∧ Kd.R (Kd.int .i64) 3 w' w.heap.size (fun k_ => some k_ ≠ s_.1.ownBlock) (.slice (some ad) out.length co) out ∧ Below w.heap.size w w') ?_ ?_
    rotate_left
    ·intro hCont
     refine two_ (i := 3) (j := 5) (Ni := some 35) (Nj := some 37) q33_2 q33_3 rfl rfl rfl rfl (by kernel_rfl) (by decide) (by decide) (fun K hK => ?_) (fun K hK => ?_)
     ·skip
      refine goes_ Try.func20 (by kernel_rfl) rfl #[.slice (some ad) j co] (by rfl) rfl rfl (by (try simp only [mA_]); first | done | rfl | (simp only [List.length_drop, List.length_take]; rfl)) ?_
      refine calls_args (a' := #[.slice (some ad) (out.take j).length co]) (by rw [List.length_take, Nat.min_eq_left hkl]) ?_
      with_reducible refine (spec_l1Own.calls (some ad) co (out.take j) (out.take j) _ ?side1 ?side2 AOWN.out).mono ?_
      case side1 => exact (Kd.R_reads' (Kd.R_take (bR HR.out) hkl)).2.2
      case side2 => rw [List.length_take]; omega
      rintro e w35 ⟨v35, rfl, ho0, hb⟩
      refine ⟨_, rfl, ?_⟩
      have n0 := Aside0.mk (Kd.R_elder' (bR HR.out) (Kd.R_base ho0) hb)
      have n1 := Aside0.mk (Kd.R_lower ho0 (below_size (bw HB.out)))
      have n2 := Aside0.mk (below_step (bw HB.out) hb)
      replace HR := n0
      have HO35 := n1
      replace HB := n2
      clear n0 n1 n2 hb ho0
      refine hK.out _ _ trivial (fun hHeld => ?_)
      clear hK K
      refine norm_ (a' := ?_) ?_ ?_
      rotate_left
      ·show Act.put _ (some 35) _ = _
       simp only [aq_]
       rfl
      refine one_ (i := 5) (N := some 37) q33_1 rfl rfl (by kernel_rfl) (by decide) (fun K hK => ?_)
      refine Kd.R_lit_step (Kd.int .i64) _ 3 ?hg (N := 37) ?hd (xs := ([(i : Int)] : List Int)) (inner := [.int .i64 (i : Int)]) (ok := fun _ => True) (okp := fun _ => True) ?hr ?hp (fun _ hk => hk) trivial (Below.refl _ _) (Nat.le_refl _) (by simp) ?_
      case hd => rfl
      case hg => rfl
      case hr => first | (go_simp; done) | (go_simp; rfl)
      case hp => exact (Reps.one (show Kd.M (Kd.int .i64) _ _ _ (i : Int) [.int .i64 (i : Int)] from rfl) (Reps.none _ _))
      intro v37 w37 ho4 hb2 hg_ hnew_
      clear hg_ hnew_
      have m0 := Aside0.mk (Kd.R_below (bR HR.out) hb2)
      have m1 := Aside0.mk (Kd.R_lower ho4 (below_size (bw HB.out)))
      have m2 := Aside0.mk (below_step (bw HB.out) hb2)
      have m3 := Aside0.mk (Kd.R_below (bR HO35.out) hb2)
      replace HR := m0
      have HO37 := m1
      replace HB := m2
      replace HO35 := m3
      clear m0 m1 m2 m3 hb2 ho4
      refine hK.out _ _ trivial (fun hHeld => ?_)
      clear hK K
      refine norm_ (a' := ?_) ?_ ?_
      rotate_left
      ·show Act.put _ (some 37) _ = _
       simp only [aq_]
       rfl
      exact norm_ (by simp only [putAll, Act.put, List.setIfInBounds_toArray, List.set_cons_zero, List.set_cons_succ]) (hCont (v35, v37) _ ⟨bR HO35.out, bR HO37.out, (by first | exact Kd.R_mono HR.out (fun _ hk => hk.2) | exact Kd.R_mono (bR HR.out) (fun _ hk => hk.2)), bw HB.out⟩)
     ·skip
      refine Kd.R_lit_step (Kd.int .i64) _ 3 ?hg (N := 37) ?hd (xs := ([(i : Int)] : List Int)) (inner := [.int .i64 (i : Int)]) (ok := fun _ => True) (okp := fun _ => True) ?hr ?hp (fun _ hk => hk) trivial (Below.refl _ _) (Nat.le_refl _) (by simp) ?_
      case hd => rfl
      case hg => rfl
      case hr => first | (go_simp; done) | (go_simp; rfl)
      case hp => exact (Reps.one (show Kd.M (Kd.int .i64) _ _ _ (i : Int) [.int .i64 (i : Int)] from rfl) (Reps.none _ _))
      intro v37 w37 ho4 hb2 hg_ hnew_
      clear hg_ hnew_
      have m0 := Aside0.mk (Kd.R_below (bR HR.out) hb2)
      have m1 := Aside0.mk (Kd.R_lower ho4 (below_size (bw HB.out)))
      have m2 := Aside0.mk (below_step (bw HB.out) hb2)
      replace HR := m0
      have HO37 := m1
      replace HB := m2
      clear m0 m1 m2 hb2 ho4
      refine hK.out _ _ trivial (fun hHeld => ?_)
      clear hK K
      refine norm_ (a' := ?_) ?_ ?_
      rotate_left
      ·show Act.put _ (some 37) _ = _
       simp only [aq_]
       rfl
      refine one_ (i := 3) (N := some 35) q33_1 rfl rfl (by kernel_rfl) (by decide) (fun K hK => ?_)
      refine goes_ Try.func20 (by kernel_rfl) rfl #[.slice (some ad) j co] (by rfl) rfl rfl (by (try simp only [mA_]); first | done | rfl | (simp only [List.length_drop, List.length_take]; rfl)) ?_
      refine calls_args (a' := #[.slice (some ad) (out.take j).length co]) (by rw [List.length_take, Nat.min_eq_left hkl]) ?_
      with_reducible refine (spec_l1Own.calls (some ad) co (out.take j) (out.take j) _ ?side1 ?side2 AOWN.out).mono ?_
      case side1 => exact (Kd.R_reads' (Kd.R_take (bR HR.out) hkl)).2.2
      case side2 => rw [List.length_take]; omega
      rintro e w35 ⟨v35, rfl, ho0, hb⟩
      refine ⟨_, rfl, ?_⟩
      have n0 := Aside0.mk (Kd.R_elder' (bR HR.out) (Kd.R_base ho0) hb)
      have n1 := Aside0.mk (Kd.R_lower ho0 (below_size (bw HB.out)))
      have n2 := Aside0.mk (below_step (bw HB.out) hb)
      have n3 := Aside0.mk (Kd.R_below (bR HO37.out) hb)
      replace HR := n0
      have HO35 := n1
      replace HB := n2
      replace HO37 := n3
      clear n0 n1 n2 n3 hb ho0
      refine hK.out _ _ trivial (fun hHeld => ?_)
      clear hK K
      refine norm_ (a' := ?_) ?_ ?_
      rotate_left
      ·show Act.put _ (some 35) _ = _
       simp only [aq_]
       rfl
      exact norm_ (by simp only [putAll, Act.put, List.setIfInBounds_toArray, List.set_cons_zero, List.set_cons_succ]) (hCont (v35, v37) _ ⟨bR HO35.out, bR HO37.out, (by first | exact Kd.R_mono HR.out (fun _ hk => hk.2) | exact Kd.R_mono (bR HR.out) (fun _ hk => hk.2)), bw HB.out⟩)
    clear HR HB
    rintro ⟨v35, v37⟩ w38 ⟨h35, h37, hR8, hB8⟩
    obtain ⟨A37, c37, e37⟩ := Kd.R_slice h37
    subst e37
    refine norm_ (a' := ?_) (by simp only [putAll, Act.put, List.setIfInBounds_toArray, List.set_cons_zero, List.set_cons_succ]; rfl) ?_
    refine one_ (i := 6) (N := some 38) q33_4 rfl rfl (by kernel_rfl) (by decide) (fun K hK => ?_)
    refine Kd.R_append_rows_step (Kd.int .i64) (w0 := w) w.heap.size (by rfl) (.tmp 35) (.tmp 37) 25 3 (.int .i64 0) 8 rfl Try.underlying25 info3 rfl (by decide) (by omega) v35 (out.take j) [(i : Int)] _ _ _ (fun _ => True) (fun _ => False) rfl rfl ?aO ?aR (fun _ _ h => h) (fun _ h => h.elim) ?aF ?aB ?aS ?aL ?_
    case aO => exact h35
    case aR => exact (Kd.R_reads' h37).2.2
    case aF => exact (fun _ _ => trivial)
    case aB => exact hB8
    case aS => exact below_size hB8
    case aL => simp only [List.length_take, List.length_cons, List.length_nil]; omega
    intro v38 w39 ho38 hb38 hg38 hat38
    have hR9 := Kd.R_after (ok := fun _ => True) (Kd.R_mono hR8 (fun _ hk => ⟨trivial, hk⟩)) hg38 hat38
    clear hg38 hat38 h35 h37 hR8 hB8
    refine hK.out _ _ trivial (fun hHeld => ?_)
    clear hK K
    refine norm_ (a' := ?_) ?_ ?_
    rotate_left
    ·show Act.put _ (some 38) _ = _
     simp only [aq_]
     rfl
    refine one_ (i := 10) (N := some 42) q33_5 rfl rfl (by kernel_rfl) (by decide) (fun K hK => ?_)
    refine Kd.R_append_rows_step (Kd.int .i64) (w0 := w) w.heap.size (by rfl) (.tmp 38) (.tmp 41) 25 3 (.int .i64 0) 8 rfl Try.underlying25 info3 rfl (by decide) (by omega) v38 (out.take j ++ [(i : Int)]) (out.drop j) _ _ _ (fun _ => True) (fun _ => False) rfl rfl ?aO ?aR (fun _ _ h => h) (fun _ h => h.elim) ?aF ?aB ?aS ?aL ?_
    case aO => exact ho38
    case aR =>
     have hcd := Kd.C_drop (Kd.R_reads' hR9).2.2 hkl hcL
     rw [List.length_drop] at hcd
     simp only [show (Kd.int .i64).sz = 1 from rfl, Nat.mul_one] at hcd
     exact hcd
    case aF => exact (fun _ _ => trivial)
    case aB => exact hb38
    case aS => exact below_size hb38
    case aL => have := HAP.out; omega
    intro v42 w43 ho42 hb42 hg42 hat42
    clear hg42 hat42 ho38 hb38 hR9
    refine hK.out _ _ trivial (fun hHeld => ?_)
    clear hK K
    refine norm_ (a' := ?_) ?_ ?_
    rotate_left
    ·show Act.put _ (some 42) _ = _
     simp only [aq_]
     rfl
    refine puq_ (i := 11) (N := some 5) (v := ?_) (a' := ?_) rfl rfl (by kernel_rfl) (fun _ _ _ h => h) (Or.inl ⟨by rfl, ?_⟩) ?_ ?_
    rotate_left
    ·intro w'
     go_simp
     with_reducible rfl
    rotate_left
    ·simp only [aq_]
     rfl
    refine done_ (by kernel_rfl) ?_
    have HR := Aside0.mk ho42
    have HB := Aside0.mk hb42
    clear ho42 hb42
    go_wp2
    all_goals (go_roundg kq; (case measure => omega); (case rel => exact ⟨i + 1, out.take j ++ (i : Int) :: out.drop j, (by first | rfl | rw [HW.out]), ⟨by have := HI.out; omega⟩, HLEN, HS, ⟨by have := HR.out; simpa using this⟩, HB⟩))

/-! ### spec_DrawIsRuledOrder: function 14 -/
mutual
def spec_DrawIsRuledOrder.j0 : Nat → List (S42) → Int → List Int → Bool → List Int → Int → Int → Option ((List (S42)) × List Int × Int)
 | 0, _, _, _, _, _, _, _ => none
 | k + 1, x6, x7, x8, x27, x289000, x289001, x289002 => if x27 = true then ((spec_l3Order.f x6 x7).bind fun t304 => (if (t304.length : Int) > 1 then ((spec_l1Cur_one.f x289000 x289001 x289002 2).bind fun bt307 => (spec_DrawIsRuledOrder.j1 k x6 x7 t304 bt307.1 x289000 bt307.2.1 bt307.2.2)) else (spec_DrawIsRuledOrder.j1 k x6 x7 t304 false x289000 x289001 x289002))) else (some (x6, x8, x7))
def spec_DrawIsRuledOrder.j1 : Nat → List (S42) → Int → List Int → Bool → List Int → Int → Int → Option ((List (S42)) × List Int × Int)
 | 0, _, _, _, _, _, _, _ => none
 | k + 1, x6, x7, x8, x37, x289000, x289001, x289002 => if x37 = true then ((spec_l1Cur_pick.f x289000 x289001 x289002 (wrap64 ((x8.length : Int) - 1))).bind fun bt310 => ((spec_l2Swap.f x8 bt310.1).bind fun t313 => (some (x6, t313, x7)))) else (some (x6, x8, x7))
end
def spec_DrawIsRuledOrder.f (k : Nat) (l0 : List Int) : Option ((List (S42)) × List Int × Int) := (spec_l1Cur_ruled3.f k l0 0 0).bind fun bt289 => ((spec_l1Cur_order.f l0 bt289.2.2.1 bt289.2.2.2 (bt289.1.length : Int)).bind fun bt295 => ((spec_l3Ruled.f k bt289.1 bt289.2.1).bind fun t300 => (if t300 = true then ((spec_l1Cur_one.f l0 bt295.2.1 bt295.2.2 2).bind fun bt301 => (spec_DrawIsRuledOrder.j0 k bt289.1 bt289.2.1 bt295.1 bt301.1 l0 bt301.2.1 bt301.2.2)) else (spec_DrawIsRuledOrder.j0 k bt289.1 bt289.2.1 bt295.1 false l0 bt295.2.1 bt295.2.2))))
theorem spec_DrawIsRuledOrder.mono_l : ∀ k, (∀ y0 y1 y2 y3 y4 y5 y6, LeO (spec_DrawIsRuledOrder.j0 k y0 y1 y2 y3 y4 y5 y6) (spec_DrawIsRuledOrder.j0 (k + 1) y0 y1 y2 y3 y4 y5 y6)) ∧ (∀ y0 y1 y2 y3 y4 y5 y6, LeO (spec_DrawIsRuledOrder.j1 k y0 y1 y2 y3 y4 y5 y6) (spec_DrawIsRuledOrder.j1 (k + 1) y0 y1 y2 y3 y4 y5 y6))
 | 0 => ⟨fun _ _ _ _ _ _ _ r h => by simp [spec_DrawIsRuledOrder.j0] at h, fun _ _ _ _ _ _ _ r h => by simp [spec_DrawIsRuledOrder.j1] at h⟩
 | k + 1 => by
  obtain ⟨ih0, ih1⟩ := spec_DrawIsRuledOrder.mono_l k
  refine ⟨?_, ?_⟩
  ·intro y0 y1 y2 y3 y4 y5 y6
   unfold spec_DrawIsRuledOrder.j0
   repeat' first
   | (with_reducible exact ih0 _ _ _ _ _ _ _)
   | (with_reducible exact ih1 _ _ _ _ _ _ _)
   | (with_reducible exact spec_l1Cur_ruled3.mono _ _ _ _)
   | (with_reducible exact spec_l3Ruled.mono _ _ _)
   | (with_reducible exact LeO.refl _)
   | (with_reducible exact LeO.none _)
   | (with_reducible refine LeO.ite ?_ ?_)
   | (with_reducible refine LeO.bind ?_ (fun _ => ?_))
   | exact ih0 _ _ _ _ _ _ _
   | exact ih1 _ _ _ _ _ _ _
   | exact spec_l1Cur_ruled3.mono _ _ _ _
   | exact spec_l3Ruled.mono _ _ _
   | exact LeO.none _
   | refine LeO.ite ?_ ?_
   | refine LeO.bind ?_ (fun _ => ?_)
  ·intro y0 y1 y2 y3 y4 y5 y6
   unfold spec_DrawIsRuledOrder.j1
   repeat' first
   | (with_reducible exact ih0 _ _ _ _ _ _ _)
   | (with_reducible exact ih1 _ _ _ _ _ _ _)
   | (with_reducible exact spec_l1Cur_ruled3.mono _ _ _ _)
   | (with_reducible exact spec_l3Ruled.mono _ _ _)
   | (with_reducible exact LeO.refl _)
   | (with_reducible exact LeO.none _)
   | (with_reducible refine LeO.ite ?_ ?_)
   | (with_reducible refine LeO.bind ?_ (fun _ => ?_))
   | exact ih0 _ _ _ _ _ _ _
   | exact ih1 _ _ _ _ _ _ _
   | exact spec_l1Cur_ruled3.mono _ _ _ _
   | exact spec_l3Ruled.mono _ _ _
   | exact LeO.none _
   | refine LeO.ite ?_ ?_
   | refine LeO.bind ?_ (fun _ => ?_)
theorem spec_DrawIsRuledOrder.mono : ∀ a0 k, LeO (spec_DrawIsRuledOrder.f k a0) (spec_DrawIsRuledOrder.f (k + 1) a0) := by
 intro a0 k
 obtain ⟨ih0, ih1⟩ := spec_DrawIsRuledOrder.mono_l k
 unfold spec_DrawIsRuledOrder.f
 repeat' first
   | (with_reducible exact ih0 _ _ _ _ _ _ _)
   | (with_reducible exact ih1 _ _ _ _ _ _ _)
   | (with_reducible exact spec_l1Cur_ruled3.mono _ _ _ _)
   | (with_reducible exact spec_l3Ruled.mono _ _ _)
   | (with_reducible exact LeO.refl _)
   | (with_reducible exact LeO.none _)
   | (with_reducible refine LeO.ite ?_ ?_)
   | (with_reducible refine LeO.bind ?_ (fun _ => ?_))
   | exact ih0 _ _ _ _ _ _ _
   | exact ih1 _ _ _ _ _ _ _
   | exact spec_l1Cur_ruled3.mono _ _ _ _
   | exact spec_l3Ruled.mono _ _ _
   | exact LeO.none _
   | refine LeO.ite ?_ ?_
   | refine LeO.bind ?_ (fun _ => ?_)
set_option maxHeartbeats 8000000 in
set_option maxRecDepth 100000 in
theorem spec_DrawIsRuledOrder.calls (k : Nat) (A0 : Option Addr) (c0 : Nat) (l0 : List Int) (r1 : List (S42)) (r2 : List Int) (r3 : Int) (w : World) (hr0 : Kd.C (Kd.int .u8) w A0 l0.length l0) (hc0 : l0.length ≤ c0) (h : spec_DrawIsRuledOrder.f k l0 = some (r1, r2, r3)) :
  Calls Try.prog 14 #[.slice A0 l0.length c0] w fun e w' => ∃ v0_ v1_ : Value, e = .returned (.tuple #[v0_, v1_, .int .i64 r3]) ∧ Kd.R k42 42 w' w.heap.size (fun _ => True) v0_ r1 ∧ Kd.R (Kd.int .i64) 3 w' w.heap.size (fun _ => True) v1_ r2 ∧ Below w.heap.size w w' := by
 have hu53 := Try.underlying53
 have HR0 := Aside0.mk hr0
 have HC0 := Aside0.mk hc0
 clear hr0 hc0
 have HB := Aside0.mk (Below.refl w.heap.size w)
 have H : ((spec_l1Cur_ruled3.f k l0 0 0).bind fun bt289 => ((spec_l1Cur_order.f l0 bt289.2.2.1 bt289.2.2.2 (bt289.1.length : Int)).bind fun bt295 => ((spec_l3Ruled.f k bt289.1 bt289.2.1).bind fun t300 => (if t300 = true then ((spec_l1Cur_one.f l0 bt295.2.1 bt295.2.2 2).bind fun bt301 => (spec_DrawIsRuledOrder.j0 k bt289.1 bt289.2.1 bt295.1 bt301.1 l0 bt301.2.1 bt301.2.2)) else (spec_DrawIsRuledOrder.j0 k bt289.1 bt289.2.1 bt295.1 false l0 bt295.2.1 bt295.2.2))))) = some (r1, r2, r3) := h
 clear h
 replace H := Option.bind_eq_some_iff.mp H
 obtain ⟨⟨t289, t292, t293, t294⟩, A20, H⟩ := H
 replace H : ((spec_l1Cur_order.f l0 t293 t294 (t289.length : Int)).bind fun bt295 => ((spec_l3Ruled.f k t289 t292).bind fun t300 => (if t300 = true then ((spec_l1Cur_one.f l0 bt295.2.1 bt295.2.2 2).bind fun bt301 => (spec_DrawIsRuledOrder.j0 k t289 t292 bt295.1 bt301.1 l0 bt301.2.1 bt301.2.2)) else (spec_DrawIsRuledOrder.j0 k t289 t292 bt295.1 false l0 bt295.2.1 bt295.2.2)))) = some (r1, r2, r3) := H
 have A2 := Aside0.mk A20
 clear A20
 replace H := Option.bind_eq_some_iff.mp H
 obtain ⟨⟨t295, t298, t299⟩, A30, H⟩ := H
 replace H : ((spec_l3Ruled.f k t289 t292).bind fun t300 => (if t300 = true then ((spec_l1Cur_one.f l0 t298 t299 2).bind fun bt301 => (spec_DrawIsRuledOrder.j0 k t289 t292 t295 bt301.1 l0 bt301.2.1 bt301.2.2)) else (spec_DrawIsRuledOrder.j0 k t289 t292 t295 false l0 t298 t299))) = some (r1, r2, r3) := H
 have A3 := Aside0.mk A30
 clear A30
 have HC4 := Aside0.mk H
 clear H
 go_enter Try.func14, Try.ntmps14
 go_upto_region 4 with (first | ((with_reducible refine gate_dst (N := 11) rfl ?_); refine box_event ?hg (N := 11) ?hd (cs := #[.slice A0 l0.length c0, .int .i64 0, .int .u64 0]) (t := 53) ?hr ?_; (case hd => rfl); (case hg => rfl); (case hr => first | (go_simp; done) | (go_simp; rfl)); intro gb288 hg w5 hbox hb; have n0_ := Aside0.mk (below_step (bw HB.out) hb); have n1_ := Aside0.mk ((show IsS53 w w5 gb288 l0 0 0 from ⟨A0, c0, hbox, (by rw [hg]; exact (below_size (bw HB.out)) : w.heap.size ≤ gb288), HR0.out⟩)); replace HB := n0_; have HI288 := n1_; clear n0_ n1_; (try clear hbox); (try clear hb); (try clear hg)) | ((with_reducible refine gate_callee (f := 29) rfl ?_); refine goesL_ (some 14) rfl rfl Try.func29 (by kernel_rfl) rfl #[.pointer (some ⟨gb288, 0, none⟩)] rfl (by (try simp only [mA_]); first | done | rfl | (simp only [List.length_drop, List.length_take]; rfl)) ?_; (with_reducible refine (spec_l1Cur_ruled3.calls k gb288 l0 0 0 t289 t292 t293 t294 w _ ?side1 ?side2 A2.out).mono ?_); (case side1 => repeat (first | (with_reducible first | exact HI288.out | apply IsS53.alloc | apply IsS53.drewN | apply IsS53.drew | apply IsS53.set_1 | apply IsS53.set_2) | exact HI288.out)); (case side2 => repeat (first | (with_reducible first | exact HB.out | apply below_alloc | apply pw_below_drewN | apply below_drew1 | refine below_set ?_ (IsS53.ge HI288.out)) | exact HB.out)); rintro e w6 ⟨v290, rfl, ho0, hi, hb, hk⟩; refine ⟨_, rfl, ?_⟩; have n0_ := Aside0.mk (Kd.R_lower ho0 (below_size (by repeat (first | (with_reducible first | exact HB.out | apply below_alloc | apply pw_below_drewN | apply below_drew1 | refine below_set ?_ (IsS53.ge HI288.out)) | exact HB.out)))); have n1_ := Aside0.mk (hb); have n2_ := Aside0.mk (hi); have HO291 := n0_; replace HB := n1_; replace HI288 := n2_; clear n0_ n1_ n2_; (try clear hb); (try clear hb2); (try clear hk); (try clear hi); (try clear ho0); obtain ⟨Ao7, co7, eo7⟩ := Kd.R_slice HO291.out; subst eo7) | ((with_reducible refine gate_callee (f := 30) rfl ?_); refine goesL_ (some 20) rfl rfl Try.func30 (by kernel_rfl) rfl #[.pointer (some ⟨gb288, 0, none⟩), .int .i64 (t289.length : Int)] rfl (by (try simp only [mA_]); first | done | rfl | (simp only [List.length_drop, List.length_take]; rfl)) ?_; (with_reducible refine (spec_l1Cur_order.calls gb288 l0 t293 t294 (t289.length : Int) t295 t298 t299 w _ ?side1 ?side2 A3.out).mono ?_); (case side1 => repeat (first | (with_reducible first | exact HI288.out | apply IsS53.alloc | apply IsS53.drewN | apply IsS53.drew | apply IsS53.set_1 | apply IsS53.set_2) | exact HI288.out)); (case side2 => repeat (first | (with_reducible first | exact HB.out | apply below_alloc | apply pw_below_drewN | apply below_drew1 | refine below_set ?_ (IsS53.ge HI288.out)) | exact HB.out)); rintro e w8 ⟨v296, rfl, ho0, hi, hb, hk⟩; refine ⟨_, rfl, ?_⟩; have n0_ := Aside0.mk (Kd.R_mono (Kd.R_keep (IsS53.apart (show IsS53 w _ gb288 l0 t293 t294 from by repeat (first | (with_reducible first | exact HI288.out | apply IsS53.alloc | apply IsS53.drewN | apply IsS53.drew | apply IsS53.set_1 | apply IsS53.set_2) | exact HI288.out)) (bR HO291.out) (by decide)) hk (fun _ h => h.2)) (fun _ h => h.1)); have n1_ := Aside0.mk (Kd.R_lower ho0 (below_size (by repeat (first | (with_reducible first | exact HB.out | apply below_alloc | apply pw_below_drewN | apply below_drew1 | refine below_set ?_ (IsS53.ge HI288.out)) | exact HB.out)))); have n2_ := Aside0.mk (hb); have n3_ := Aside0.mk (hi); replace HO291 := n0_; have HO297 := n1_; replace HB := n2_; replace HI288 := n3_; clear n0_ n1_ n2_ n3_; (try clear hb); (try clear hb2); (try clear hk); (try clear hi); (try clear ho0)))
 (try simp only [Act.put, List.setIfInBounds_toArray, List.set_cons_zero, List.set_cons_succ])
 go_cut [27] (fun v27 wc => ∃ (kq : Nat) (x27_3 : Bool) (x289001_3 : Int) (x289002_3 : Int), v27 = .bool x27_3 ∧ Aside0 (spec_DrawIsRuledOrder.j0 kq t289 t292 t295 x27_3 l0 x289001_3 x289002_3 = some (r1, r2, r3)) ∧ Aside0 (kq ≤ k) ∧ Aside0 (Kd.R k42 42 wc w.heap.size (fun _ => True) (.slice Ao7 t289.length co7) t289) ∧ Aside0 (Kd.R (Kd.int .i64) 3 wc w.heap.size (fun _ => True) v296 t295) ∧ Aside0 (IsS53 w wc gb288 l0 x289001_3 x289002_3) ∧ Aside0 (Below w.heap.size w wc))
 case first =>
  have H := HC4.out
  clear HC4
  replace H := Option.bind_eq_some_iff.mp H
  obtain ⟨t300, A90, H⟩ := H
  replace H : (if t300 = true then ((spec_l1Cur_one.f l0 t298 t299 2).bind fun bt301 => (spec_DrawIsRuledOrder.j0 k t289 t292 t295 bt301.1 l0 bt301.2.1 bt301.2.2)) else (spec_DrawIsRuledOrder.j0 k t289 t292 t295 false l0 t298 t299)) = some (r1, r2, r3) := H
  have A9 := Aside0.mk A90
  clear A90
  by_cases c10 : t300 = true
  rotate_left
  ·replace c10 := Bool.eq_false_iff.mpr c10
   subst c10
   have H1 : (spec_DrawIsRuledOrder.j0 k t289 t292 t295 false l0 t298 t299) = some (r1, r2, r3) := by rw [if_neg (show ¬ (false = true) by decide)] at H; exact H
   clear H
   have H := H1
   clear H1
   have H' := Aside0.mk H
   clear H
   go_wp2_with (first | ((with_reducible refine gate_callee (f := 31) rfl ?_); refine goesL_ (some 23) rfl rfl Try.func31 (by kernel_rfl) rfl #[.slice Ao7 t289.length co7, .int .i64 t292] rfl (by (try simp only [mA_]); first | done | rfl | (simp only [List.length_drop, List.length_take]; rfl)) ?_; (with_reducible refine (spec_l3Ruled.calls k _ _ t289 t292 false _ ?side1 ?side2 A9.out).mono ?_); (case side1 => repeat (first | exact (Kd.R_reads' HO291.out).2.2 | (with_reducible refine Kd.C_alloc ?_ _) | (with_reducible refine Kd.C_drewN ?_ _) | (with_reducible refine Kd.C_drew ?_))); (case side2 => exact (Kd.R_reads' HO291.out).2.1); rintro e w14 ⟨rfl, hb⟩; refine ⟨_, rfl, ?_⟩; have n0_ := Aside0.mk (Kd.R_below (bR HO291.out) hb); have n1_ := Aside0.mk (Kd.R_below (bR HO297.out) hb); have n2_ := Aside0.mk (IsS53.below (by repeat (first | (with_reducible first | exact HI288.out | apply IsS53.alloc | apply IsS53.drewN | apply IsS53.drew | apply IsS53.set_1 | apply IsS53.set_2) | exact HI288.out)) hb); have n3_ := Aside0.mk (below_step (by repeat (first | (with_reducible first | exact HB.out | apply below_alloc | apply pw_below_drewN | apply below_drew1 | refine below_set ?_ (IsS53.ge HI288.out)) | exact HB.out)) hb); replace HO291 := n0_; replace HO297 := n1_; replace HI288 := n2_; replace HB := n3_; clear n0_ n1_ n2_ n3_; (try clear hb); (try clear hb2); (try clear hk); (try clear hi)))
   go_meet
   case rel => exact ⟨_, (false), (t298), (t299), (by first | rfl | (simp; done) | (simp [*]; done)), H', ⟨by first | omega | exact Nat.le_refl _⟩, ⟨bR HO291.out⟩, ⟨bR HO297.out⟩, ⟨by repeat (first | (with_reducible first | exact HI288.out | apply IsS53.alloc | apply IsS53.drewN | apply IsS53.drew | apply IsS53.set_1 | apply IsS53.set_2) | exact HI288.out)⟩, ⟨by repeat (first | (with_reducible first | exact HB.out | apply below_alloc | apply pw_below_drewN | apply below_drew1 | refine below_set ?_ (IsS53.ge HI288.out)) | exact HB.out)⟩⟩
  subst c10
  have H1 : ((spec_l1Cur_one.f l0 t298 t299 2).bind fun bt301 => (spec_DrawIsRuledOrder.j0 k t289 t292 t295 bt301.1 l0 bt301.2.1 bt301.2.2)) = some (r1, r2, r3) := by rw [if_pos rfl] at H; exact H
  clear H
  have H := H1
  clear H1
  replace H := Option.bind_eq_some_iff.mp H
  obtain ⟨⟨t301, t302, t303⟩, A110, H⟩ := H
  replace H : (spec_DrawIsRuledOrder.j0 k t289 t292 t295 t301 l0 t302 t303) = some (r1, r2, r3) := H
  have A11 := Aside0.mk A110
  clear A110
  have H' := Aside0.mk H
  clear H
  go_wp2_with (first | ((with_reducible refine gate_callee (f := 31) rfl ?_); refine goesL_ (some 23) rfl rfl Try.func31 (by kernel_rfl) rfl #[.slice Ao7 t289.length co7, .int .i64 t292] rfl (by (try simp only [mA_]); first | done | rfl | (simp only [List.length_drop, List.length_take]; rfl)) ?_; (with_reducible refine (spec_l3Ruled.calls k _ _ t289 t292 true _ ?side1 ?side2 A9.out).mono ?_); (case side1 => repeat (first | exact (Kd.R_reads' HO291.out).2.2 | (with_reducible refine Kd.C_alloc ?_ _) | (with_reducible refine Kd.C_drewN ?_ _) | (with_reducible refine Kd.C_drew ?_))); (case side2 => exact (Kd.R_reads' HO291.out).2.1); rintro e w12 ⟨rfl, hb⟩; refine ⟨_, rfl, ?_⟩; have n0_ := Aside0.mk (Kd.R_below (bR HO291.out) hb); have n1_ := Aside0.mk (Kd.R_below (bR HO297.out) hb); have n2_ := Aside0.mk (IsS53.below (by repeat (first | (with_reducible first | exact HI288.out | apply IsS53.alloc | apply IsS53.drewN | apply IsS53.drew | apply IsS53.set_1 | apply IsS53.set_2) | exact HI288.out)) hb); have n3_ := Aside0.mk (below_step (by repeat (first | (with_reducible first | exact HB.out | apply below_alloc | apply pw_below_drewN | apply below_drew1 | refine below_set ?_ (IsS53.ge HI288.out)) | exact HB.out)) hb); replace HO291 := n0_; replace HO297 := n1_; replace HI288 := n2_; replace HB := n3_; clear n0_ n1_ n2_ n3_; (try clear hb); (try clear hb2); (try clear hk); (try clear hi)) | (go_at_call 32; (with_reducible refine (spec_l1Cur_one.calls gb288 l0 t298 t299 2 t301 t302 t303 w _ ?side1 ?side2 A11.out).mono ?_); (case side1 => repeat (first | (with_reducible first | exact HI288.out | apply IsS53.alloc | apply IsS53.drewN | apply IsS53.drew | apply IsS53.set_1 | apply IsS53.set_2) | exact HI288.out)); (case side2 => repeat (first | (with_reducible first | exact HB.out | apply below_alloc | apply pw_below_drewN | apply below_drew1 | refine below_set ?_ (IsS53.ge HI288.out)) | exact HB.out)); rintro e w13 ⟨rfl, hi, hb, hk⟩; have n0_ := Aside0.mk (Kd.R_mono (Kd.R_keep (IsS53.apart (show IsS53 w _ gb288 l0 t298 t299 from by repeat (first | (with_reducible first | exact HI288.out | apply IsS53.alloc | apply IsS53.drewN | apply IsS53.drew | apply IsS53.set_1 | apply IsS53.set_2) | exact HI288.out)) (bR HO291.out) (by decide)) hk (fun _ h => h.2)) (fun _ h => h.1)); have n1_ := Aside0.mk (Kd.R_mono (Kd.R_keep (IsS53.apart (show IsS53 w _ gb288 l0 t298 t299 from by repeat (first | (with_reducible first | exact HI288.out | apply IsS53.alloc | apply IsS53.drewN | apply IsS53.drew | apply IsS53.set_1 | apply IsS53.set_2) | exact HI288.out)) (bR HO297.out) (by decide)) hk (fun _ h => h.2)) (fun _ h => h.1)); have n2_ := Aside0.mk (hb); have n3_ := Aside0.mk (hi); replace HO291 := n0_; replace HO297 := n1_; replace HB := n2_; replace HI288 := n3_; clear n0_ n1_ n2_ n3_; (try clear hb); (try clear hb2); (try clear hk); (try clear hi)))
  go_meet
  case rel => exact ⟨_, (t301), (t302), (t303), (by first | rfl | (simp; done) | (simp [*]; done)), H', ⟨by first | omega | exact Nat.le_refl _⟩, ⟨bR HO291.out⟩, ⟨bR HO297.out⟩, ⟨by repeat (first | (with_reducible first | exact HI288.out | apply IsS53.alloc | apply IsS53.drewN | apply IsS53.drew | apply IsS53.set_1 | apply IsS53.set_2) | exact HI288.out)⟩, ⟨by repeat (first | (with_reducible first | exact HB.out | apply below_alloc | apply pw_below_drewN | apply below_drew1 | refine below_set ?_ (IsS53.ge HI288.out)) | exact HB.out)⟩⟩
 case rest =>
  clear HC4
  try clear c1
  try clear c2
  try clear p2
  try clear c3
  try clear c10
  try clear c14
  obtain ⟨kq, x27_3, x289001_3, x289002_3, rfl, HA, HJ3, HO_6, HO_8, HI288, HB⟩ := hcut
  cases kq with
  | zero => exact absurd HA.out (by simp [spec_DrawIsRuledOrder.j0])
  | succ kj3 =>
   have H := HA.out
   clear HA
   simp only [spec_DrawIsRuledOrder.j0] at H
   by_cases c15 : x27_3 = true
   rotate_left
   ·replace c15 := Bool.eq_false_iff.mpr c15
    subst c15
    have H1 : (some (t289, t295, t292)) = some (r1, r2, r3) := by rw [if_neg (show ¬ (false = true) by decide)] at H; exact H
    clear H
    have H := H1
    clear H1
    simp only [Option.some.injEq, Prod.mk.injEq] at H
    obtain ⟨rfl, rfl, rfl⟩ := H
    go_wp2
    go_ret3
    exact ⟨_, _, by first | rfl | (simp [errW_none, errW_some] <;> rfl) | (simp [*, errW_none, errW_some] <;> rfl), by (with_reducible repeat (first | apply Kd.R_alloc | apply Kd.R_drewN | apply Kd.R_drew)); exact HO_6.out, by (with_reducible repeat (first | apply Kd.R_alloc | apply Kd.R_drewN | apply Kd.R_drew)); exact HO_8.out, by repeat (first | (with_reducible first | exact HB.out | apply below_alloc | apply pw_below_drewN | apply below_drew1 | refine below_set ?_ (IsS53.ge HI288.out)) | exact HB.out)⟩
   subst c15
   have H1 : ((spec_l3Order.f t289 t292).bind fun t304 => (if (t304.length : Int) > 1 then ((spec_l1Cur_one.f l0 x289001_3 x289002_3 2).bind fun bt307 => (spec_DrawIsRuledOrder.j1 kj3 t289 t292 t304 bt307.1 l0 bt307.2.1 bt307.2.2)) else (spec_DrawIsRuledOrder.j1 kj3 t289 t292 t304 false l0 x289001_3 x289002_3))) = some (r1, r2, r3) := by rw [if_pos rfl] at H; exact H
   clear H
   have H := H1
   clear H1
   replace H := Option.bind_eq_some_iff.mp H
   obtain ⟨t304, A160, H⟩ := H
   replace H : (if (t304.length : Int) > 1 then ((spec_l1Cur_one.f l0 x289001_3 x289002_3 2).bind fun bt307 => (spec_DrawIsRuledOrder.j1 kj3 t289 t292 t304 bt307.1 l0 bt307.2.1 bt307.2.2)) else (spec_DrawIsRuledOrder.j1 kj3 t289 t292 t304 false l0 x289001_3 x289002_3)) = some (r1, r2, r3) := H
   have A16 := Aside0.mk A160
   clear A160
   have HC17 := Aside0.mk H
   clear H
   go_upto_region 6 with (first | ((with_reducible refine gate_callee (f := 33) rfl ?_); refine goesL_ (some 30) rfl rfl Try.func33 (by kernel_rfl) rfl #[.slice Ao7 t289.length co7, .int .i64 t292] rfl (by (try simp only [mA_]); first | done | rfl | (simp only [List.length_drop, List.length_take]; rfl)) ?_; (with_reducible refine (spec_l3Order.calls _ _ t289 t292 t304 _ ?side1 ?side2 A16.out).mono ?_); (case side1 => repeat (first | exact (Kd.R_reads' HO_6.out).2.2 | (with_reducible refine Kd.C_alloc ?_ _) | (with_reducible refine Kd.C_drewN ?_ _) | (with_reducible refine Kd.C_drew ?_))); (case side2 => exact (Kd.R_reads' HO_6.out).2.1); rintro e w18 ⟨v305, rfl, ho0, hb⟩; refine ⟨_, rfl, ?_⟩; have n0_ := Aside0.mk (Kd.R_below (bR HO_6.out) hb); have n1_ := Aside0.mk (Kd.R_elder' (bR HO_8.out) (Kd.R_base ho0) hb); have n2_ := Aside0.mk (Kd.R_lower (Kd.R_new' ho0 (Kd.R_lt (bR HO_8.out))) (below_size (by repeat (first | (with_reducible first | exact HB.out | apply below_alloc | apply pw_below_drewN | apply below_drew1 | refine below_set ?_ (IsS53.ge HI288.out)) | exact HB.out)))); have n3_ := Aside0.mk (IsS53.below (by repeat (first | (with_reducible first | exact HI288.out | apply IsS53.alloc | apply IsS53.drewN | apply IsS53.drew | apply IsS53.set_1 | apply IsS53.set_2) | exact HI288.out)) hb); have n4_ := Aside0.mk (below_step (by repeat (first | (with_reducible first | exact HB.out | apply below_alloc | apply pw_below_drewN | apply below_drew1 | refine below_set ?_ (IsS53.ge HI288.out)) | exact HB.out)) hb); replace HO_6 := n0_; replace HO_8 := n1_; have HO306 := n2_; replace HI288 := n3_; replace HB := n4_; clear n0_ n1_ n2_ n3_ n4_; (try clear hb); (try clear hb2); (try clear hk); (try clear hi); (try clear ho0)))
   (try simp only [Act.put, List.setIfInBounds_toArray, List.set_cons_zero, List.set_cons_succ])
   go_cut [37] (fun v37 wc => ∃ (kq : Nat) (x37_16 : Bool) (x289001_16 : Int) (x289002_16 : Int), v37 = .bool x37_16 ∧ Aside0 (spec_DrawIsRuledOrder.j1 kq t289 t292 t304 x37_16 l0 x289001_16 x289002_16 = some (r1, r2, r3)) ∧ Aside0 (kq ≤ kj3) ∧ Aside0 (Kd.R k42 42 wc w.heap.size (fun _ => True) (.slice Ao7 t289.length co7) t289) ∧ Aside0 (Kd.R (Kd.int .i64) 3 wc w.heap.size (fun _ => True) v305 t304) ∧ Aside0 (IsS53 w wc gb288 l0 x289001_16 x289002_16) ∧ Aside0 (Below w.heap.size w wc))
   case first =>
    have H := HC17.out
    clear HC17
    by_cases c19 : (t304.length : Int) > 1
    rotate_left
    ·rw [if_neg c19] at H
     have c19b0 : decide (1 < (t304.length : Int)) = false := decide_eq_false c19
     have c19b1 : decide (1 < t304.length) = false := decide_eq_false (by omega)
     clear c19
     (first | rw [c19b0] | (simp only [i64_w, i32_w]; rw [c19b0]) | skip)
     have H' := Aside0.mk H
     clear H
     obtain ⟨Ao23, co23, eo23⟩ := Kd.R_slice HO306.out
     subst eo23
     go_wp2
     go_meet
     case rel => exact ⟨_, (false), (x289001_3), (x289002_3), (by first | rfl | (simp; done) | (simp [*]; done)), H', ⟨by have := HJ3.out; first | omega | exact Nat.le_refl _⟩, ⟨bR HO_6.out⟩, ⟨by (with_reducible repeat (first | apply Kd.R_alloc | apply Kd.R_drewN | apply Kd.R_drew)); exact Kd.R_mono HO306.out (fun _ hk => trivial)⟩, ⟨by repeat (first | (with_reducible first | exact HI288.out | apply IsS53.alloc | apply IsS53.drewN | apply IsS53.drew | apply IsS53.set_1 | apply IsS53.set_2) | exact HI288.out)⟩, ⟨by repeat (first | (with_reducible first | exact HB.out | apply below_alloc | apply pw_below_drewN | apply below_drew1 | refine below_set ?_ (IsS53.ge HI288.out)) | exact HB.out)⟩⟩
    rw [if_pos c19] at H
    have c19b0 : decide (1 < (t304.length : Int)) = true := decide_eq_true c19
    have c19b1 : decide (1 < t304.length) = true := decide_eq_true (by omega)
    clear c19
    (first | rw [c19b0] | (simp only [i64_w, i32_w]; rw [c19b0]) | skip)
    replace H := Option.bind_eq_some_iff.mp H
    obtain ⟨⟨t307, t308, t309⟩, A200, H⟩ := H
    replace H : (spec_DrawIsRuledOrder.j1 kj3 t289 t292 t304 t307 l0 t308 t309) = some (r1, r2, r3) := H
    have A20 := Aside0.mk A200
    clear A200
    have H' := Aside0.mk H
    clear H
    obtain ⟨Ao21, co21, eo21⟩ := Kd.R_slice HO306.out
    subst eo21
    go_wp2_with (first | (go_at_call 32; (with_reducible refine (spec_l1Cur_one.calls gb288 l0 x289001_3 x289002_3 2 t307 t308 t309 w _ ?side1 ?side2 A20.out).mono ?_); (case side1 => repeat (first | (with_reducible first | exact HI288.out | apply IsS53.alloc | apply IsS53.drewN | apply IsS53.drew | apply IsS53.set_1 | apply IsS53.set_2) | exact HI288.out)); (case side2 => repeat (first | (with_reducible first | exact HB.out | apply below_alloc | apply pw_below_drewN | apply below_drew1 | refine below_set ?_ (IsS53.ge HI288.out)) | exact HB.out)); rintro e w22 ⟨rfl, hi, hb, hk⟩; have n0_ := Aside0.mk (Kd.R_mono (Kd.R_keep (IsS53.apart (show IsS53 w _ gb288 l0 x289001_3 x289002_3 from by repeat (first | (with_reducible first | exact HI288.out | apply IsS53.alloc | apply IsS53.drewN | apply IsS53.drew | apply IsS53.set_1 | apply IsS53.set_2) | exact HI288.out)) (bR HO_6.out) (by decide)) hk (fun _ h => h.2)) (fun _ h => h.1)); have n1_ := Aside0.mk (Kd.R_mono (Kd.R_keep (IsS53.apart (show IsS53 w _ gb288 l0 x289001_3 x289002_3 from by repeat (first | (with_reducible first | exact HI288.out | apply IsS53.alloc | apply IsS53.drewN | apply IsS53.drew | apply IsS53.set_1 | apply IsS53.set_2) | exact HI288.out)) (bR HO_8.out) (by decide)) hk (fun _ h => h.2)) (fun _ h => h.1)); have n2_ := Aside0.mk (Kd.R_mono (Kd.R_keep (IsS53.apart (show IsS53 w _ gb288 l0 x289001_3 x289002_3 from by repeat (first | (with_reducible first | exact HI288.out | apply IsS53.alloc | apply IsS53.drewN | apply IsS53.drew | apply IsS53.set_1 | apply IsS53.set_2) | exact HI288.out)) (bR HO306.out) (by decide)) hk (fun _ h => h.2)) (fun _ h => h.1)); have n3_ := Aside0.mk (hb); have n4_ := Aside0.mk (hi); replace HO_6 := n0_; replace HO_8 := n1_; replace HO306 := n2_; replace HB := n3_; replace HI288 := n4_; clear n0_ n1_ n2_ n3_ n4_; (try clear hb); (try clear hb2); (try clear hk); (try clear hi)))
    go_meet
    case rel => exact ⟨_, (t307), (t308), (t309), (by first | rfl | (simp; done) | (simp [*]; done)), H', ⟨by have := HJ3.out; first | omega | exact Nat.le_refl _⟩, ⟨bR HO_6.out⟩, ⟨by (with_reducible repeat (first | apply Kd.R_alloc | apply Kd.R_drewN | apply Kd.R_drew)); exact Kd.R_mono HO306.out (fun _ hk => trivial)⟩, ⟨by repeat (first | (with_reducible first | exact HI288.out | apply IsS53.alloc | apply IsS53.drewN | apply IsS53.drew | apply IsS53.set_1 | apply IsS53.set_2) | exact HI288.out)⟩, ⟨by repeat (first | (with_reducible first | exact HB.out | apply below_alloc | apply pw_below_drewN | apply below_drew1 | refine below_set ?_ (IsS53.ge HI288.out)) | exact HB.out)⟩⟩
   case rest =>
    clear HC17
    try clear c1
    try clear c2
    try clear p2
    try clear c3
    try clear c10
    try clear c14
    try clear c15
    try clear c19
    try clear c19b0
    try clear c19b1
    try clear p2
    obtain ⟨kq, x37_16, x289001_16, x289002_16, rfl, HA, HJ16, HO_6, HO_8, HI288, HB⟩ := hcut
    cases kq with
    | zero => exact absurd HA.out (by simp [spec_DrawIsRuledOrder.j1])
    | succ kj16 =>
     have H := HA.out
     clear HA
     simp only [spec_DrawIsRuledOrder.j1] at H
     by_cases c24 : x37_16 = true
     rotate_left
     ·replace c24 := Bool.eq_false_iff.mpr c24
      subst c24
      have H1 : (some (t289, t304, t292)) = some (r1, r2, r3) := by rw [if_neg (show ¬ (false = true) by decide)] at H; exact H
      clear H
      have H := H1
      clear H1
      simp only [Option.some.injEq, Prod.mk.injEq] at H
      obtain ⟨rfl, rfl, rfl⟩ := H
      go_wp2
      go_ret3
      exact ⟨_, _, by first | rfl | (simp [errW_none, errW_some] <;> rfl) | (simp [*, errW_none, errW_some] <;> rfl), by (with_reducible repeat (first | apply Kd.R_alloc | apply Kd.R_drewN | apply Kd.R_drew)); exact HO_6.out, by (with_reducible repeat (first | apply Kd.R_alloc | apply Kd.R_drewN | apply Kd.R_drew)); exact HO_8.out, by repeat (first | (with_reducible first | exact HB.out | apply below_alloc | apply pw_below_drewN | apply below_drew1 | refine below_set ?_ (IsS53.ge HI288.out)) | exact HB.out)⟩
     subst c24
     have H1 : ((spec_l1Cur_pick.f l0 x289001_16 x289002_16 (wrap64 ((t304.length : Int) - 1))).bind fun bt310 => ((spec_l2Swap.f t304 bt310.1).bind fun t313 => (some (t289, t313, t292)))) = some (r1, r2, r3) := by rw [if_pos rfl] at H; exact H
     clear H
     have H := H1
     clear H1
     replace H := Option.bind_eq_some_iff.mp H
     obtain ⟨⟨t310, t311, t312⟩, A250, H⟩ := H
     replace H : ((spec_l2Swap.f t304 t310).bind fun t313 => (some (t289, t313, t292))) = some (r1, r2, r3) := H
     have A25 := Aside0.mk A250
     clear A250
     replace H := Option.bind_eq_some_iff.mp H
     obtain ⟨t313, A260, H⟩ := H
     replace H : (some (t289, t313, t292)) = some (r1, r2, r3) := H
     have A26 := Aside0.mk A260
     clear A260
     simp only [Option.some.injEq, Prod.mk.injEq] at H
     obtain ⟨rfl, rfl, rfl⟩ := H
     obtain ⟨Ao27, co27, eo27⟩ := Kd.R_slice HO_8.out
     subst eo27
     go_wp2_with (first | ((with_reducible refine gate_callee (f := 34) rfl ?_); refine goesL_ (some 43) rfl rfl Try.func34 (by kernel_rfl) rfl #[.pointer (some ⟨gb288, 0, none⟩), .int .i64 (wrap64 ((t304.length : Int) - 1))] rfl (by (try simp only [mA_]); first | done | rfl | (simp only [List.length_drop, List.length_take]; rfl)) ?_; (with_reducible refine (spec_l1Cur_pick.calls gb288 l0 x289001_16 x289002_16 (wrap64 ((t304.length : Int) - 1)) t310 t311 t312 w _ ?side1 ?side2 A25.out).mono ?_); (case side1 => repeat (first | (with_reducible first | exact HI288.out | apply IsS53.alloc | apply IsS53.drewN | apply IsS53.drew | apply IsS53.set_1 | apply IsS53.set_2) | exact HI288.out)); (case side2 => repeat (first | (with_reducible first | exact HB.out | apply below_alloc | apply pw_below_drewN | apply below_drew1 | refine below_set ?_ (IsS53.ge HI288.out)) | exact HB.out)); rintro e w28 ⟨rfl, hi, hb, hk⟩; refine ⟨_, rfl, ?_⟩; have n0_ := Aside0.mk (Kd.R_mono (Kd.R_keep (IsS53.apart (show IsS53 w _ gb288 l0 x289001_16 x289002_16 from by repeat (first | (with_reducible first | exact HI288.out | apply IsS53.alloc | apply IsS53.drewN | apply IsS53.drew | apply IsS53.set_1 | apply IsS53.set_2) | exact HI288.out)) (bR HO_6.out) (by decide)) hk (fun _ h => h.2)) (fun _ h => h.1)); have n1_ := Aside0.mk (Kd.R_mono (Kd.R_keep (IsS53.apart (show IsS53 w _ gb288 l0 x289001_16 x289002_16 from by repeat (first | (with_reducible first | exact HI288.out | apply IsS53.alloc | apply IsS53.drewN | apply IsS53.drew | apply IsS53.set_1 | apply IsS53.set_2) | exact HI288.out)) (bR HO_8.out) (by decide)) hk (fun _ h => h.2)) (fun _ h => h.1)); have n2_ := Aside0.mk (hb); have n3_ := Aside0.mk (hi); replace HO_6 := n0_; replace HO_8 := n1_; replace HB := n2_; replace HI288 := n3_; clear n0_ n1_ n2_ n3_; (try clear hb); (try clear hb2); (try clear hk); (try clear hi)) | ((with_reducible refine gate_callee (f := 22) rfl ?_); refine goesL_ (some 44) rfl rfl Try.func22 (by kernel_rfl) rfl #[.slice Ao27 t304.length co27, .int .i64 t310] rfl (by (try simp only [mA_]); first | done | rfl | (simp only [List.length_drop, List.length_take]; rfl)) ?_; (with_reducible refine (spec_l2Swap.calls _ _ t304 t310 t313 _ ?side1 ?side2 A26.out).mono ?_); (case side1 => repeat (first | exact (Kd.R_reads' HO_8.out).2.2 | (with_reducible refine Kd.C_alloc ?_ _) | (with_reducible refine Kd.C_drewN ?_ _) | (with_reducible refine Kd.C_drew ?_))); (case side2 => exact (Kd.R_reads' HO_8.out).2.1); rintro e w29 ⟨v314, rfl, ho0, hb⟩; refine ⟨_, rfl, ?_⟩; have n0_ := Aside0.mk (Kd.R_below (bR HO_6.out) hb); have n1_ := Aside0.mk (Kd.R_elder' (bR HO_8.out) (Kd.R_base ho0) hb); have n2_ := Aside0.mk (Kd.R_lower (Kd.R_new' ho0 (Kd.R_lt (bR HO_8.out))) (below_size (by repeat (first | (with_reducible first | exact HB.out | apply below_alloc | apply pw_below_drewN | apply below_drew1 | refine below_set ?_ (IsS53.ge HI288.out)) | exact HB.out)))); have n3_ := Aside0.mk (IsS53.below (by repeat (first | (with_reducible first | exact HI288.out | apply IsS53.alloc | apply IsS53.drewN | apply IsS53.drew | apply IsS53.set_1 | apply IsS53.set_2) | exact HI288.out)) hb); have n4_ := Aside0.mk (below_step (by repeat (first | (with_reducible first | exact HB.out | apply below_alloc | apply pw_below_drewN | apply below_drew1 | refine below_set ?_ (IsS53.ge HI288.out)) | exact HB.out)) hb); replace HO_6 := n0_; replace HO_8 := n1_; have HO315 := n2_; replace HI288 := n3_; replace HB := n4_; clear n0_ n1_ n2_ n3_ n4_; (try clear hb); (try clear hb2); (try clear hk); (try clear hi); (try clear ho0)))
     go_ret3
     exact ⟨_, _, by first | rfl | (simp [errW_none, errW_some] <;> rfl) | (simp [*, errW_none, errW_some] <;> rfl), by (with_reducible repeat (first | apply Kd.R_alloc | apply Kd.R_drewN | apply Kd.R_drew)); exact HO_6.out, by (with_reducible repeat (first | apply Kd.R_alloc | apply Kd.R_drewN | apply Kd.R_drew)); exact Kd.R_mono HO315.out (fun _ hk => trivial), by repeat (first | (with_reducible first | exact HB.out | apply below_alloc | apply pw_below_drewN | apply below_drew1 | refine below_set ?_ (IsS53.ge HI288.out)) | exact HB.out)⟩

/-! ### spec_DrawSortingExchanges: function 5 -/
def spec_DrawSortingExchanges.f (k : Nat) (l0 : List Int) : Option ((List (S42)) × List Int × Int) := (spec_DrawIsRuledOrder.f k l0).bind fun bt316 => (some (bt316.1, bt316.2.1, bt316.2.2))
theorem spec_DrawSortingExchanges.mono : ∀ a0 k, LeO (spec_DrawSortingExchanges.f k a0) (spec_DrawSortingExchanges.f (k + 1) a0) := by
 intro a0 k
 unfold spec_DrawSortingExchanges.f
 repeat' first
   | (with_reducible exact spec_DrawIsRuledOrder.mono _ _)
   | (with_reducible exact LeO.refl _)
   | (with_reducible exact LeO.none _)
   | (with_reducible refine LeO.ite ?_ ?_)
   | (with_reducible refine LeO.bind ?_ (fun _ => ?_))
   | exact spec_DrawIsRuledOrder.mono _ _
   | exact LeO.none _
   | refine LeO.ite ?_ ?_
   | refine LeO.bind ?_ (fun _ => ?_)
set_option maxHeartbeats 8000000 in
set_option maxRecDepth 100000 in
theorem spec_DrawSortingExchanges.calls (k : Nat) (A0 : Option Addr) (c0 : Nat) (l0 : List Int) (r1 : List (S42)) (r2 : List Int) (r3 : Int) (w : World) (hr0 : Kd.C (Kd.int .u8) w A0 l0.length l0) (hc0 : l0.length ≤ c0) (h : spec_DrawSortingExchanges.f k l0 = some (r1, r2, r3)) :
  Calls Try.prog 5 #[.slice A0 l0.length c0] w fun e w' => ∃ v0_ v1_ : Value, e = .returned (.tuple #[v0_, v1_, .int .i64 r3]) ∧ Kd.R k42 42 w' w.heap.size (fun _ => True) v0_ r1 ∧ Kd.R (Kd.int .i64) 3 w' w.heap.size (fun _ => True) v1_ r2 ∧ Below w.heap.size w w' := by
 have HR0 := Aside0.mk hr0
 have HC0 := Aside0.mk hc0
 clear hr0 hc0
 have HB := Aside0.mk (Below.refl w.heap.size w)
 have H : ((spec_DrawIsRuledOrder.f k l0).bind fun bt316 => (some (bt316.1, bt316.2.1, bt316.2.2))) = some (r1, r2, r3) := h
 clear h
 replace H := Option.bind_eq_some_iff.mp H
 obtain ⟨⟨t316, t317, t318⟩, A20, H⟩ := H
 replace H : (some (t316, t317, t318)) = some (r1, r2, r3) := H
 have A2 := Aside0.mk A20
 clear A20
 simp only [Option.some.injEq, Prod.mk.injEq] at H
 obtain ⟨rfl, rfl, rfl⟩ := H
 go_enter Try.func5, Try.ntmps5
 go_wp2_with (first | ((with_reducible refine gate_callee (f := 14) rfl ?_); refine goesL_ (some 6) rfl rfl Try.func14 (by kernel_rfl) rfl #[.slice A0 l0.length c0] rfl (by (try simp only [mA_]); first | done | rfl | (simp only [List.length_drop, List.length_take]; rfl)) ?_; (with_reducible refine (spec_DrawIsRuledOrder.calls k _ _ l0 t316 t317 t318 _ ?side1 ?side2 A2.out).mono ?_); (case side1 => repeat (first | exact HR0.out | (with_reducible refine Kd.C_alloc ?_ _) | (with_reducible refine Kd.C_drewN ?_ _) | (with_reducible refine Kd.C_drew ?_))); (case side2 => exact HC0.out); rintro e w3 ⟨v319, v321, rfl, ho0, ho1, hb⟩; refine ⟨_, rfl, ?_⟩; have n0_ := Aside0.mk (Kd.R_lower ho0 (below_size (bw HB.out))); have n1_ := Aside0.mk (Kd.R_lower ho1 (below_size (bw HB.out))); have n2_ := Aside0.mk (below_step (bw HB.out) hb); have HO320 := n0_; have HO322 := n1_; replace HB := n2_; clear n0_ n1_ n2_; (try clear hb); (try clear hb2); (try clear hk); (try clear hi); (try clear ho0); (try clear ho1)))
 go_ret3
 exact ⟨_, _, by first | rfl | (simp [errW_none, errW_some] <;> rfl) | (simp [*, errW_none, errW_some] <;> rfl), by (with_reducible repeat (first | apply Kd.R_alloc | apply Kd.R_drewN | apply Kd.R_drew)); exact HO320.out, by (with_reducible repeat (first | apply Kd.R_alloc | apply Kd.R_drewN | apply Kd.R_drew)); exact HO322.out, bw HB.out⟩

/-! ### impl_within: function 25 -/
def impl_within.f (a0 : Int) (a1 : Int) (a2 : Int) : Option (Bool) := if a1 ≤ a0 then (some (decide (a0 ≤ a2))) else (some false)
set_option maxHeartbeats 8000000 in
set_option maxRecDepth 100000 in
theorem impl_within.calls (a0 : Int) (a1 : Int) (a2 : Int) (r : Bool) (w : World) (h : impl_within.f a0 a1 a2 = some r) :
  Calls Try.prog 25 #[.int .i64 a0, .int .i64 a1, .int .i64 a2] w fun e w' => e = .returned (.bool r) ∧ Drawn0 w w' := by
 have H : (if a1 ≤ a0 then (some (decide (a0 ≤ a2))) else (some false)) = some r := h
 clear h
 by_cases c4 : a1 ≤ a0
 ·rw [if_pos c4] at H
  have c4b0 : decide (a1 ≤ a0) = true := decide_eq_true c4
  clear c4
  obtain rfl := Option.some.inj H
  go_enter Try.func25, Try.ntmps25
  go_wp2
  go_ret
  exact ⟨by first | rfl | (simp; done) | (simp [*]; done), by repeat (first | exact Drawn0.refl _ | apply Drawn0.step)⟩
 rw [if_neg c4] at H
 have c4b0 : decide (a1 ≤ a0) = false := decide_eq_false c4
 clear c4
 obtain rfl := Option.some.inj H
 go_enter Try.func25, Try.ntmps25
 go_wp2
 go_ret
 exact ⟨by first | rfl | (simp; done) | (simp [*]; done), by repeat (first | exact Drawn0.refl _ | apply Drawn0.step)⟩

/-! ### impl_isDate: function 61 -/
def impl_isDate.f (a0 : Int) : Option (Bool) := (impl_within.f a0 0 500).bind fun t323 => (some t323)
set_option maxHeartbeats 8000000 in
set_option maxRecDepth 100000 in
theorem impl_isDate.calls (a0 : Int) (r : Bool) (w : World) (h : impl_isDate.f a0 = some r) :
  Calls Try.prog 61 #[.int .i64 a0] w fun e w' => e = .returned (.bool r) ∧ Drawn0 w w' := by
 have H : ((impl_within.f a0 0 500).bind fun t323 => (some t323)) = some r := h
 clear h
 replace H := Option.bind_eq_some_iff.mp H
 obtain ⟨t323, A20, H⟩ := H
 replace H : (some t323) = some r := H
 have A2 := Aside0.mk A20
 clear A20
 obtain rfl := Option.some.inj H
 go_enter Try.func61, Try.ntmps61
 go_wp2_with (first | ((with_reducible refine gate_callee (f := 25) rfl ?_); refine goesL_ (some 4) rfl rfl Try.func25 (by kernel_rfl) rfl #[.int .i64 a0, .int .i64 0, .int .i64 500] rfl (by (try simp only [mA_]); first | done | rfl | (simp only [List.length_drop, List.length_take]; rfl)) ?_; (with_reducible refine (impl_within.calls a0 0 500 t323 _ A2.out).mono ?_); rintro e w' ⟨rfl, ⟨nd, rfl⟩⟩; refine ⟨_, rfl, ?_⟩))
 go_ret
 exact ⟨by first | rfl | (simp; done) | (simp [*]; done), by repeat (first | exact Drawn0.refl _ | apply Drawn0.step)⟩

/-! ### impl_IsJobs: function 52 -/
def impl_IsJobs.l0 : Nat → List (S42) → Int → Int → Option (Bool)
 | 0, _, _, _ => none
 | k + 1, x8, x9, x10 => if x10 < x9 then (if 0 ≤ x10 then (if x10 < (x8.length : Int) then ((impl_within.f ((rd_T42 x8 x10).f0) 1 50).bind fun t326 => (if t326 = true then ((impl_within.f ((rd_T42 x8 x10).f1) 0 50).bind fun t327 => (if t327 = true then ((impl_isDate.f ((rd_T42 x8 x10).f2)).bind fun t328 => (if t328 = true then ((impl_isDate.f ((rd_T42 x8 x10).f3)).bind fun t329 => (if t329 = true then (impl_IsJobs.l0 k x8 x9 (wrap64 (x10 + 1))) else (some false))) else (some false))) else (some false))) else (some false))) else (none)) else (none)) else (some true)
def impl_IsJobs.f (k : Nat) (l0 : List (S42)) : Option (Bool) := if (l0.length : Int) > 8 then (some false) else (impl_IsJobs.l0 k l0 (l0.length : Int) 0)
theorem impl_IsJobs.mono_l : ∀ k, (∀ y0 y1 y2, LeO (impl_IsJobs.l0 k y0 y1 y2) (impl_IsJobs.l0 (k + 1) y0 y1 y2))
 | 0 => fun _ _ _ r h => by simp [impl_IsJobs.l0] at h
 | k + 1 => by
  have ih0 := impl_IsJobs.mono_l k
  ·intro y0 y1 y2
   unfold impl_IsJobs.l0
   repeat' first
   | (with_reducible exact ih0 _ _ _)
   | (with_reducible exact LeO.refl _)
   | (with_reducible exact LeO.none _)
   | (with_reducible refine LeO.ite ?_ ?_)
   | (with_reducible refine LeO.bind ?_ (fun _ => ?_))
   | exact ih0 _ _ _
   | exact LeO.none _
   | refine LeO.ite ?_ ?_
   | refine LeO.bind ?_ (fun _ => ?_)
theorem impl_IsJobs.mono : ∀ a0 k, LeO (impl_IsJobs.f k a0) (impl_IsJobs.f (k + 1) a0) := by
 intro a0 k
 have ih0 := impl_IsJobs.mono_l k
 unfold impl_IsJobs.f
 repeat' first
   | (with_reducible exact ih0 _ _ _)
   | (with_reducible exact LeO.refl _)
   | (with_reducible exact LeO.none _)
   | (with_reducible refine LeO.ite ?_ ?_)
   | (with_reducible refine LeO.bind ?_ (fun _ => ?_))
   | exact ih0 _ _ _
   | exact LeO.none _
   | refine LeO.ite ?_ ?_
   | refine LeO.bind ?_ (fun _ => ?_)
set_option maxHeartbeats 8000000 in
set_option maxRecDepth 100000 in
theorem impl_IsJobs.calls (k : Nat) (A0 : Option Addr) (c0 : Nat) (l0 : List (S42)) (r : Bool) (w : World) (hr0 : Kd.C k42 w A0 l0.length l0) (hc0 : l0.length ≤ c0) (h : impl_IsJobs.f k l0 = some r) :
  Calls Try.prog 52 #[.slice A0 l0.length c0] w fun e w' => e = .returned (.bool r) ∧ Below w.heap.size w w' := by
 have hu42 := Try.underlying42
 have HR0 := Aside0.mk hr0
 have HC0 := Aside0.mk hc0
 clear hr0 hc0
 have HB := Aside0.mk (Below.refl w.heap.size w)
 have H : (if (l0.length : Int) > 8 then (some false) else (impl_IsJobs.l0 k l0 (l0.length : Int) 0)) = some r := h
 clear h
 by_cases c2 : (l0.length : Int) > 8
 ·rw [if_pos c2] at H
  have c2b0 : decide (8 < (l0.length : Int)) = true := decide_eq_true c2
  have c2b1 : decide (8 < l0.length) = true := decide_eq_true (by omega)
  clear c2
  obtain rfl := Option.some.inj H
  go_enter Try.func52, Try.ntmps52
  go_wp2
  go_ret
  exact ⟨by first | rfl | (simp [errW_none, errW_some] <;> rfl) | (simp [*, errW_none, errW_some] <;> rfl), bw HB.out⟩
 rw [if_neg c2] at H
 have c2b0 : decide (8 < (l0.length : Int)) = false := decide_eq_false c2
 have c2b1 : decide (8 < l0.length) = false := decide_eq_false (by omega)
 clear c2
 have H' := Aside0.mk H
 clear H
 go_enter Try.func52, Try.ntmps52
 go_wp2
 go_loopg [10] k (fun kq v10 w' => ∃ (x10_1 : Int), v10 = .int .i64 x10_1 ∧ Aside0 (impl_IsJobs.l0 kq l0 (l0.length : Int) x10_1 = some r) ∧ Aside0 (kq ≤ k) ∧ Aside0 (Below w.heap.size w w'))
 case atStart => exact ⟨(0), (by first | rfl | (simp; done) | (simp [*]; done)), H', ⟨Nat.le_refl _⟩, ⟨bw HB.out⟩⟩
 case round =>
  clear H'
  try clear c2
  try clear c2b0
  try clear c2b1
  try clear p2
  obtain ⟨x10_1, rfl, HA, HK1, HB⟩ := hrel
  cases gk with
  | zero => exact absurd HA.out (by simp [impl_IsJobs.l0])
  | succ k1 =>
   have H := HA.out
   clear HA
   simp only [impl_IsJobs.l0] at H
   by_cases c3 : x10_1 < (l0.length : Int)
   rotate_left
   ·rw [if_neg c3] at H
    have c3b0 : decide (x10_1 < (l0.length : Int)) = false := decide_eq_false c3
    clear c3
    obtain rfl := Option.some.inj H
    go_wp2
    go_ret
    exact ⟨by first | rfl | (simp [errW_none, errW_some] <;> rfl) | (simp [*, errW_none, errW_some] <;> rfl), bw HB.out⟩
   rw [if_pos c3] at H
   have c3b0 : decide (x10_1 < (l0.length : Int)) = true := decide_eq_true c3
   clear c3
   by_cases c4 : 0 ≤ x10_1
   rotate_left
   ·rw [if_neg c4] at H
    exact absurd H (by simp)
   rw [if_pos c4] at H
   have c4b0 : decide (0 ≤ x10_1) = true := decide_eq_true c4
   clear c4
   by_cases c5 : x10_1 < (l0.length : Int)
   rotate_left
   ·rw [if_neg c5] at H
    exact absurd H (by simp)
   rw [if_pos c5] at H
   have c5b0 : decide (x10_1 < (l0.length : Int)) = true := decide_eq_true c5
   clear c5
   replace H := Option.bind_eq_some_iff.mp H
   obtain ⟨t326, A60, H⟩ := H
   replace H : (if t326 = true then ((impl_within.f ((rd_T42 l0 x10_1).f1) 0 50).bind fun t327 => (if t327 = true then ((impl_isDate.f ((rd_T42 l0 x10_1).f2)).bind fun t328 => (if t328 = true then ((impl_isDate.f ((rd_T42 l0 x10_1).f3)).bind fun t329 => (if t329 = true then (impl_IsJobs.l0 k1 l0 (l0.length : Int) (wrap64 (x10_1 + 1))) else (some false))) else (some false))) else (some false))) else (some false)) = some r := H
   have A6 := Aside0.mk A60
   clear A60
   by_cases c7 : t326 = true
   rotate_left
   ·replace c7 := Bool.eq_false_iff.mpr c7
    subst c7
    have H1 : (some false) = some r := by rw [if_neg (show ¬ (false = true) by decide)] at H; exact H
    clear H
    have H := H1
    clear H1
    obtain rfl := Option.some.inj H
    have p324 : 0 ≤ (x10_1 : Int) := of_decide_eq_true (by first | (with_reducible assumption) | assumption)
    have q324 : x10_1 < (l0.length : Int) := of_decide_eq_true (by first | (with_reducible assumption) | assumption)
    obtain ⟨ad324, e324, hx324_0, hx324_1, hx324_2, hx324_3⟩ := at_T42 HR0.out x10_1 p324 q324
    cases e324
    replace hx324_0 := (HB.out.cell (World.block_lt_of_cell? w _ hx324_0)).trans hx324_0
    replace hx324_1 := (HB.out.cell (World.block_lt_of_cell? w _ hx324_1)).trans hx324_1
    replace hx324_2 := (HB.out.cell (World.block_lt_of_cell? w _ hx324_2)).trans hx324_2
    replace hx324_3 := (HB.out.cell (World.block_lt_of_cell? w _ hx324_3)).trans hx324_3
    replace p324 := eq_true p324
    replace q324 := eq_true q324
    go_wp2_with (first | ((with_reducible refine gate_dst (N := 4) rfl ?_); refine box_event ?hg (N := 4) ?hd (cs := #[.int .i64 0, .int .i64 0, .int .i64 0, .int .i64 0]) (t := 42) ?hr ?_; (case hd => rfl); (case hg => rfl); (case hr => first | (go_simp; done) | (go_simp; rfl)); intro gb325 hg w22 hbox hb; have n0_ := Aside0.mk (below_step (bw HB.out) hb); have n1_ := Aside0.mk (hbox); have n2_ := ge_ hg HB.out; have n3_ := ge_ hg HB.out; replace HB := n0_; have BK325 := n1_; have GW325 := n2_; have GE325 := n3_; clear n0_ n1_ n2_ n3_; clear hb hbox hg; obtain ⟨hcz23_0, hcz23_1, hcz23_2, hcz23_3, hfz23_0, hfz23_1, hfz23_2, hfz23_3⟩ := bz4 BK325.out) | ((with_reducible refine gate_callee (f := 25) rfl ?_); refine goesL_ (some 16) rfl rfl Try.func25 (by kernel_rfl) rfl #[.int .i64 ((rd_T42 l0 x10_1).f0), .int .i64 1, .int .i64 50] rfl (by (try simp only [mA_]); first | done | rfl | (simp only [List.length_drop, List.length_take]; rfl)) ?_; (with_reducible refine (impl_within.calls ((rd_T42 l0 x10_1).f0) 1 50 false _ A6.out).mono ?_); rintro e w' ⟨rfl, ⟨nd, rfl⟩⟩; refine ⟨_, rfl, ?_⟩))
    go_ret
    exact ⟨by first | rfl | (simp [errW_none, errW_some] <;> rfl) | (simp [*, errW_none, errW_some] <;> rfl), by repeat (first | (with_reducible first | exact bw HB.out | refine bset ?_ | apply bA | apply bN | apply bD) | exact HB.out)⟩
   subst c7
   have H1 : ((impl_within.f ((rd_T42 l0 x10_1).f1) 0 50).bind fun t327 => (if t327 = true then ((impl_isDate.f ((rd_T42 l0 x10_1).f2)).bind fun t328 => (if t328 = true then ((impl_isDate.f ((rd_T42 l0 x10_1).f3)).bind fun t329 => (if t329 = true then (impl_IsJobs.l0 k1 l0 (l0.length : Int) (wrap64 (x10_1 + 1))) else (some false))) else (some false))) else (some false))) = some r := by rw [if_pos rfl] at H; exact H
   clear H
   have H := H1
   clear H1
   replace H := Option.bind_eq_some_iff.mp H
   obtain ⟨t327, A80, H⟩ := H
   replace H : (if t327 = true then ((impl_isDate.f ((rd_T42 l0 x10_1).f2)).bind fun t328 => (if t328 = true then ((impl_isDate.f ((rd_T42 l0 x10_1).f3)).bind fun t329 => (if t329 = true then (impl_IsJobs.l0 k1 l0 (l0.length : Int) (wrap64 (x10_1 + 1))) else (some false))) else (some false))) else (some false)) = some r := H
   have A8 := Aside0.mk A80
   clear A80
   by_cases c9 : t327 = true
   rotate_left
   ·replace c9 := Bool.eq_false_iff.mpr c9
    subst c9
    have H1 : (some false) = some r := by rw [if_neg (show ¬ (false = true) by decide)] at H; exact H
    clear H
    have H := H1
    clear H1
    obtain rfl := Option.some.inj H
    have p324 : 0 ≤ (x10_1 : Int) := of_decide_eq_true (by first | (with_reducible assumption) | assumption)
    have q324 : x10_1 < (l0.length : Int) := of_decide_eq_true (by first | (with_reducible assumption) | assumption)
    obtain ⟨ad324, e324, hx324_0, hx324_1, hx324_2, hx324_3⟩ := at_T42 HR0.out x10_1 p324 q324
    cases e324
    replace hx324_0 := (HB.out.cell (World.block_lt_of_cell? w _ hx324_0)).trans hx324_0
    replace hx324_1 := (HB.out.cell (World.block_lt_of_cell? w _ hx324_1)).trans hx324_1
    replace hx324_2 := (HB.out.cell (World.block_lt_of_cell? w _ hx324_2)).trans hx324_2
    replace hx324_3 := (HB.out.cell (World.block_lt_of_cell? w _ hx324_3)).trans hx324_3
    replace p324 := eq_true p324
    replace q324 := eq_true q324
    go_wp2_with (first | ((with_reducible refine gate_dst (N := 4) rfl ?_); refine box_event ?hg (N := 4) ?hd (cs := #[.int .i64 0, .int .i64 0, .int .i64 0, .int .i64 0]) (t := 42) ?hr ?_; (case hd => rfl); (case hg => rfl); (case hr => first | (go_simp; done) | (go_simp; rfl)); intro gb325 hg w20 hbox hb; have n0_ := Aside0.mk (below_step (bw HB.out) hb); have n1_ := Aside0.mk (hbox); have n2_ := ge_ hg HB.out; have n3_ := ge_ hg HB.out; replace HB := n0_; have BK325 := n1_; have GW325 := n2_; have GE325 := n3_; clear n0_ n1_ n2_ n3_; clear hb hbox hg; obtain ⟨hcz21_0, hcz21_1, hcz21_2, hcz21_3, hfz21_0, hfz21_1, hfz21_2, hfz21_3⟩ := bz4 BK325.out) | ((with_reducible refine gate_callee (f := 25) rfl ?_); refine goesL_ (some 16) rfl rfl Try.func25 (by kernel_rfl) rfl #[.int .i64 ((rd_T42 l0 x10_1).f0), .int .i64 1, .int .i64 50] rfl (by (try simp only [mA_]); first | done | rfl | (simp only [List.length_drop, List.length_take]; rfl)) ?_; (with_reducible refine (impl_within.calls ((rd_T42 l0 x10_1).f0) 1 50 true _ A6.out).mono ?_); rintro e w' ⟨rfl, ⟨nd, rfl⟩⟩; refine ⟨_, rfl, ?_⟩) | (go_at_call 25; (with_reducible refine (impl_within.calls ((rd_T42 l0 x10_1).f1) 0 50 false _ A8.out).mono ?_); rintro e w' ⟨rfl, ⟨nd, rfl⟩⟩))
    go_ret
    exact ⟨by first | rfl | (simp [errW_none, errW_some] <;> rfl) | (simp [*, errW_none, errW_some] <;> rfl), by repeat (first | (with_reducible first | exact bw HB.out | refine bset ?_ | apply bA | apply bN | apply bD) | exact HB.out)⟩
   subst c9
   have H1 : ((impl_isDate.f ((rd_T42 l0 x10_1).f2)).bind fun t328 => (if t328 = true then ((impl_isDate.f ((rd_T42 l0 x10_1).f3)).bind fun t329 => (if t329 = true then (impl_IsJobs.l0 k1 l0 (l0.length : Int) (wrap64 (x10_1 + 1))) else (some false))) else (some false))) = some r := by rw [if_pos rfl] at H; exact H
   clear H
   have H := H1
   clear H1
   replace H := Option.bind_eq_some_iff.mp H
   obtain ⟨t328, A100, H⟩ := H
   replace H : (if t328 = true then ((impl_isDate.f ((rd_T42 l0 x10_1).f3)).bind fun t329 => (if t329 = true then (impl_IsJobs.l0 k1 l0 (l0.length : Int) (wrap64 (x10_1 + 1))) else (some false))) else (some false)) = some r := H
   have A10 := Aside0.mk A100
   clear A100
   by_cases c11 : t328 = true
   rotate_left
   ·replace c11 := Bool.eq_false_iff.mpr c11
    subst c11
    have H1 : (some false) = some r := by rw [if_neg (show ¬ (false = true) by decide)] at H; exact H
    clear H
    have H := H1
    clear H1
    obtain rfl := Option.some.inj H
    have p324 : 0 ≤ (x10_1 : Int) := of_decide_eq_true (by first | (with_reducible assumption) | assumption)
    have q324 : x10_1 < (l0.length : Int) := of_decide_eq_true (by first | (with_reducible assumption) | assumption)
    obtain ⟨ad324, e324, hx324_0, hx324_1, hx324_2, hx324_3⟩ := at_T42 HR0.out x10_1 p324 q324
    cases e324
    replace hx324_0 := (HB.out.cell (World.block_lt_of_cell? w _ hx324_0)).trans hx324_0
    replace hx324_1 := (HB.out.cell (World.block_lt_of_cell? w _ hx324_1)).trans hx324_1
    replace hx324_2 := (HB.out.cell (World.block_lt_of_cell? w _ hx324_2)).trans hx324_2
    replace hx324_3 := (HB.out.cell (World.block_lt_of_cell? w _ hx324_3)).trans hx324_3
    replace p324 := eq_true p324
    replace q324 := eq_true q324
    go_wp2_with (first | ((with_reducible refine gate_dst (N := 4) rfl ?_); refine box_event ?hg (N := 4) ?hd (cs := #[.int .i64 0, .int .i64 0, .int .i64 0, .int .i64 0]) (t := 42) ?hr ?_; (case hd => rfl); (case hg => rfl); (case hr => first | (go_simp; done) | (go_simp; rfl)); intro gb325 hg w18 hbox hb; have n0_ := Aside0.mk (below_step (bw HB.out) hb); have n1_ := Aside0.mk (hbox); have n2_ := ge_ hg HB.out; have n3_ := ge_ hg HB.out; replace HB := n0_; have BK325 := n1_; have GW325 := n2_; have GE325 := n3_; clear n0_ n1_ n2_ n3_; clear hb hbox hg; obtain ⟨hcz19_0, hcz19_1, hcz19_2, hcz19_3, hfz19_0, hfz19_1, hfz19_2, hfz19_3⟩ := bz4 BK325.out) | ((with_reducible refine gate_callee (f := 25) rfl ?_); refine goesL_ (some 16) rfl rfl Try.func25 (by kernel_rfl) rfl #[.int .i64 ((rd_T42 l0 x10_1).f0), .int .i64 1, .int .i64 50] rfl (by (try simp only [mA_]); first | done | rfl | (simp only [List.length_drop, List.length_take]; rfl)) ?_; (with_reducible refine (impl_within.calls ((rd_T42 l0 x10_1).f0) 1 50 true _ A6.out).mono ?_); rintro e w' ⟨rfl, ⟨nd, rfl⟩⟩; refine ⟨_, rfl, ?_⟩) | (go_at_call 25; (with_reducible refine (impl_within.calls ((rd_T42 l0 x10_1).f1) 0 50 true _ A8.out).mono ?_); rintro e w' ⟨rfl, ⟨nd, rfl⟩⟩) | (go_at_call 61; (with_reducible refine (impl_isDate.calls ((rd_T42 l0 x10_1).f2) false _ A10.out).mono ?_); rintro e w' ⟨rfl, ⟨nd, rfl⟩⟩))
    go_ret
    exact ⟨by first | rfl | (simp [errW_none, errW_some] <;> rfl) | (simp [*, errW_none, errW_some] <;> rfl), by repeat (first | (with_reducible first | exact bw HB.out | refine bset ?_ | apply bA | apply bN | apply bD) | exact HB.out)⟩
   subst c11
   have H1 : ((impl_isDate.f ((rd_T42 l0 x10_1).f3)).bind fun t329 => (if t329 = true then (impl_IsJobs.l0 k1 l0 (l0.length : Int) (wrap64 (x10_1 + 1))) else (some false))) = some r := by rw [if_pos rfl] at H; exact H
   clear H
   have H := H1
   clear H1
   replace H := Option.bind_eq_some_iff.mp H
   obtain ⟨t329, A120, H⟩ := H
   replace H : (if t329 = true then (impl_IsJobs.l0 k1 l0 (l0.length : Int) (wrap64 (x10_1 + 1))) else (some false)) = some r := H
   have A12 := Aside0.mk A120
   clear A120
   by_cases c13 : t329 = true
   rotate_left
   ·replace c13 := Bool.eq_false_iff.mpr c13
    subst c13
    have H1 : (some false) = some r := by rw [if_neg (show ¬ (false = true) by decide)] at H; exact H
    clear H
    have H := H1
    clear H1
    obtain rfl := Option.some.inj H
    have p324 : 0 ≤ (x10_1 : Int) := of_decide_eq_true (by first | (with_reducible assumption) | assumption)
    have q324 : x10_1 < (l0.length : Int) := of_decide_eq_true (by first | (with_reducible assumption) | assumption)
    obtain ⟨ad324, e324, hx324_0, hx324_1, hx324_2, hx324_3⟩ := at_T42 HR0.out x10_1 p324 q324
    cases e324
    replace hx324_0 := (HB.out.cell (World.block_lt_of_cell? w _ hx324_0)).trans hx324_0
    replace hx324_1 := (HB.out.cell (World.block_lt_of_cell? w _ hx324_1)).trans hx324_1
    replace hx324_2 := (HB.out.cell (World.block_lt_of_cell? w _ hx324_2)).trans hx324_2
    replace hx324_3 := (HB.out.cell (World.block_lt_of_cell? w _ hx324_3)).trans hx324_3
    replace p324 := eq_true p324
    replace q324 := eq_true q324
    go_wp2_with (first | ((with_reducible refine gate_dst (N := 4) rfl ?_); refine box_event ?hg (N := 4) ?hd (cs := #[.int .i64 0, .int .i64 0, .int .i64 0, .int .i64 0]) (t := 42) ?hr ?_; (case hd => rfl); (case hg => rfl); (case hr => first | (go_simp; done) | (go_simp; rfl)); intro gb325 hg w16 hbox hb; have n0_ := Aside0.mk (below_step (bw HB.out) hb); have n1_ := Aside0.mk (hbox); have n2_ := ge_ hg HB.out; have n3_ := ge_ hg HB.out; replace HB := n0_; have BK325 := n1_; have GW325 := n2_; have GE325 := n3_; clear n0_ n1_ n2_ n3_; clear hb hbox hg; obtain ⟨hcz17_0, hcz17_1, hcz17_2, hcz17_3, hfz17_0, hfz17_1, hfz17_2, hfz17_3⟩ := bz4 BK325.out) | ((with_reducible refine gate_callee (f := 25) rfl ?_); refine goesL_ (some 16) rfl rfl Try.func25 (by kernel_rfl) rfl #[.int .i64 ((rd_T42 l0 x10_1).f0), .int .i64 1, .int .i64 50] rfl (by (try simp only [mA_]); first | done | rfl | (simp only [List.length_drop, List.length_take]; rfl)) ?_; (with_reducible refine (impl_within.calls ((rd_T42 l0 x10_1).f0) 1 50 true _ A6.out).mono ?_); rintro e w' ⟨rfl, ⟨nd, rfl⟩⟩; refine ⟨_, rfl, ?_⟩) | (go_at_call 25; (with_reducible refine (impl_within.calls ((rd_T42 l0 x10_1).f1) 0 50 true _ A8.out).mono ?_); rintro e w' ⟨rfl, ⟨nd, rfl⟩⟩) | (go_at_call 61; (with_reducible refine (impl_isDate.calls ((rd_T42 l0 x10_1).f2) true _ A10.out).mono ?_); rintro e w' ⟨rfl, ⟨nd, rfl⟩⟩) | (go_at_call 61; (with_reducible refine (impl_isDate.calls ((rd_T42 l0 x10_1).f3) false _ A12.out).mono ?_); rintro e w' ⟨rfl, ⟨nd, rfl⟩⟩))
    go_ret
    exact ⟨by first | rfl | (simp [errW_none, errW_some] <;> rfl) | (simp [*, errW_none, errW_some] <;> rfl), by repeat (first | (with_reducible first | exact bw HB.out | refine bset ?_ | apply bA | apply bN | apply bD) | exact HB.out)⟩
   subst c13
   have H1 : (impl_IsJobs.l0 k1 l0 (l0.length : Int) (wrap64 (x10_1 + 1))) = some r := by rw [if_pos rfl] at H; exact H
   clear H
   have H := H1
   clear H1
   have H' := Aside0.mk H
   clear H
   have p324 : 0 ≤ (x10_1 : Int) := of_decide_eq_true (by first | (with_reducible assumption) | assumption)
   have q324 : x10_1 < (l0.length : Int) := of_decide_eq_true (by first | (with_reducible assumption) | assumption)
   obtain ⟨ad324, e324, hx324_0, hx324_1, hx324_2, hx324_3⟩ := at_T42 HR0.out x10_1 p324 q324
   cases e324
   replace hx324_0 := (HB.out.cell (World.block_lt_of_cell? w _ hx324_0)).trans hx324_0
   replace hx324_1 := (HB.out.cell (World.block_lt_of_cell? w _ hx324_1)).trans hx324_1
   replace hx324_2 := (HB.out.cell (World.block_lt_of_cell? w _ hx324_2)).trans hx324_2
   replace hx324_3 := (HB.out.cell (World.block_lt_of_cell? w _ hx324_3)).trans hx324_3
   replace p324 := eq_true p324
   replace q324 := eq_true q324
   go_wp2_with (first | ((with_reducible refine gate_dst (N := 4) rfl ?_); refine box_event ?hg (N := 4) ?hd (cs := #[.int .i64 0, .int .i64 0, .int .i64 0, .int .i64 0]) (t := 42) ?hr ?_; (case hd => rfl); (case hg => rfl); (case hr => first | (go_simp; done) | (go_simp; rfl)); intro gb325 hg w14 hbox hb; have n0_ := Aside0.mk (below_step (bw HB.out) hb); have n1_ := Aside0.mk (hbox); have n2_ := ge_ hg HB.out; have n3_ := ge_ hg HB.out; replace HB := n0_; have BK325 := n1_; have GW325 := n2_; have GE325 := n3_; clear n0_ n1_ n2_ n3_; clear hb hbox hg; obtain ⟨hcz15_0, hcz15_1, hcz15_2, hcz15_3, hfz15_0, hfz15_1, hfz15_2, hfz15_3⟩ := bz4 BK325.out) | ((with_reducible refine gate_callee (f := 25) rfl ?_); refine goesL_ (some 16) rfl rfl Try.func25 (by kernel_rfl) rfl #[.int .i64 ((rd_T42 l0 x10_1).f0), .int .i64 1, .int .i64 50] rfl (by (try simp only [mA_]); first | done | rfl | (simp only [List.length_drop, List.length_take]; rfl)) ?_; (with_reducible refine (impl_within.calls ((rd_T42 l0 x10_1).f0) 1 50 true _ A6.out).mono ?_); rintro e w' ⟨rfl, ⟨nd, rfl⟩⟩; refine ⟨_, rfl, ?_⟩) | (go_at_call 25; (with_reducible refine (impl_within.calls ((rd_T42 l0 x10_1).f1) 0 50 true _ A8.out).mono ?_); rintro e w' ⟨rfl, ⟨nd, rfl⟩⟩) | (go_at_call 61; (with_reducible refine (impl_isDate.calls ((rd_T42 l0 x10_1).f2) true _ A10.out).mono ?_); rintro e w' ⟨rfl, ⟨nd, rfl⟩⟩) | (go_at_call 61; (with_reducible refine (impl_isDate.calls ((rd_T42 l0 x10_1).f3) true _ A12.out).mono ?_); rintro e w' ⟨rfl, ⟨nd, rfl⟩⟩))
   go_roundg k1
   case measure => have := HK1.out; omega
   case rel => exact ⟨(wrap64 (x10_1 + 1)), (by first | rfl | (simp; done) | (simp [*]; done)), H', ⟨by have := HK1.out; omega⟩, ⟨by repeat (first | (with_reducible first | exact bw HB.out | refine bset ?_ | apply bA | apply bN | apply bD) | exact HB.out)⟩⟩

/-! ### impl_isPlain: function 53 -/
def impl_isPlain.l0 : Nat → List (S42) → Int → Int → Option (Bool)
 | 0, _, _, _ => none
 | k + 1, x5, x6, x7 => if x7 < x6 then (if 0 ≤ x7 then (if x7 < (x5.length : Int) then (if ((rd_T42 x5 x7).f2) = 0 then (impl_isPlain.l0 k x5 x6 (wrap64 (x7 + 1))) else (some false)) else (none)) else (none)) else (some true)
def impl_isPlain.f (k : Nat) (l0 : List (S42)) : Option (Bool) := impl_isPlain.l0 k l0 (l0.length : Int) 0
theorem impl_isPlain.mono_l : ∀ k, (∀ y0 y1 y2, LeO (impl_isPlain.l0 k y0 y1 y2) (impl_isPlain.l0 (k + 1) y0 y1 y2))
 | 0 => fun _ _ _ r h => by simp [impl_isPlain.l0] at h
 | k + 1 => by
  have ih0 := impl_isPlain.mono_l k
  ·intro y0 y1 y2
   unfold impl_isPlain.l0
   repeat' first
   | (with_reducible exact ih0 _ _ _)
   | (with_reducible exact LeO.refl _)
   | (with_reducible exact LeO.none _)
   | (with_reducible refine LeO.ite ?_ ?_)
   | (with_reducible refine LeO.bind ?_ (fun _ => ?_))
   | exact ih0 _ _ _
   | exact LeO.none _
   | refine LeO.ite ?_ ?_
   | refine LeO.bind ?_ (fun _ => ?_)
theorem impl_isPlain.mono : ∀ a0 k, LeO (impl_isPlain.f k a0) (impl_isPlain.f (k + 1) a0) := by
 intro a0 k
 have ih0 := impl_isPlain.mono_l k
 unfold impl_isPlain.f
 repeat' first
   | (with_reducible exact ih0 _ _ _)
   | (with_reducible exact LeO.refl _)
   | (with_reducible exact LeO.none _)
   | (with_reducible refine LeO.ite ?_ ?_)
   | (with_reducible refine LeO.bind ?_ (fun _ => ?_))
   | exact ih0 _ _ _
   | exact LeO.none _
   | refine LeO.ite ?_ ?_
   | refine LeO.bind ?_ (fun _ => ?_)
set_option maxHeartbeats 8000000 in
set_option maxRecDepth 100000 in
theorem impl_isPlain.calls (k : Nat) (A0 : Option Addr) (c0 : Nat) (l0 : List (S42)) (r : Bool) (w : World) (hr0 : Kd.C k42 w A0 l0.length l0) (hc0 : l0.length ≤ c0) (h : impl_isPlain.f k l0 = some r) :
  Calls Try.prog 53 #[.slice A0 l0.length c0] w fun e w' => e = .returned (.bool r) ∧ Below w.heap.size w w' := by
 have hu42 := Try.underlying42
 have HR0 := Aside0.mk hr0
 have HC0 := Aside0.mk hc0
 clear hr0 hc0
 have HB := Aside0.mk (Below.refl w.heap.size w)
 have H : (impl_isPlain.l0 k l0 (l0.length : Int) 0) = some r := h
 clear h
 have H' := Aside0.mk H
 clear H
 go_enter Try.func53, Try.ntmps53
 go_wp2
 go_loopg [7] k (fun kq v7 w' => ∃ (x7_1 : Int), v7 = .int .i64 x7_1 ∧ Aside0 (impl_isPlain.l0 kq l0 (l0.length : Int) x7_1 = some r) ∧ Aside0 (kq ≤ k) ∧ Aside0 (Below w.heap.size w w'))
 case atStart => exact ⟨(0), (by first | rfl | (simp; done) | (simp [*]; done)), H', ⟨Nat.le_refl _⟩, ⟨bw HB.out⟩⟩
 case round =>
  clear H'
  obtain ⟨x7_1, rfl, HA, HK1, HB⟩ := hrel
  cases gk with
  | zero => exact absurd HA.out (by simp [impl_isPlain.l0])
  | succ k1 =>
   have H := HA.out
   clear HA
   simp only [impl_isPlain.l0] at H
   by_cases c2 : x7_1 < (l0.length : Int)
   rotate_left
   ·rw [if_neg c2] at H
    have c2b0 : decide (x7_1 < (l0.length : Int)) = false := decide_eq_false c2
    clear c2
    obtain rfl := Option.some.inj H
    go_wp2
    go_ret
    exact ⟨by first | rfl | (simp [errW_none, errW_some] <;> rfl) | (simp [*, errW_none, errW_some] <;> rfl), bw HB.out⟩
   rw [if_pos c2] at H
   have c2b0 : decide (x7_1 < (l0.length : Int)) = true := decide_eq_true c2
   clear c2
   by_cases c3 : 0 ≤ x7_1
   rotate_left
   ·rw [if_neg c3] at H
    exact absurd H (by simp)
   rw [if_pos c3] at H
   have c3b0 : decide (0 ≤ x7_1) = true := decide_eq_true c3
   clear c3
   by_cases c4 : x7_1 < (l0.length : Int)
   rotate_left
   ·rw [if_neg c4] at H
    exact absurd H (by simp)
   rw [if_pos c4] at H
   have c4b0 : decide (x7_1 < (l0.length : Int)) = true := decide_eq_true c4
   clear c4
   by_cases c5 : ((rd_T42 l0 x7_1).f2) = 0
   rotate_left
   ·rw [if_neg c5] at H
    have c5b0 : (((rd_T42 l0 x7_1).f2) == 0) = false := beq_eq_false_iff_ne.mpr c5
    have c5b1 : (((rd_T42 l0 x7_1).f2) != 0) = true := bne_iff_ne.mpr c5
    obtain rfl := Option.some.inj H
    have p330 : 0 ≤ (x7_1 : Int) := of_decide_eq_true (by first | (with_reducible assumption) | assumption)
    have q330 : x7_1 < (l0.length : Int) := of_decide_eq_true (by first | (with_reducible assumption) | assumption)
    obtain ⟨ad330, e330, hx330_0, hx330_1, hx330_2, hx330_3⟩ := at_T42 HR0.out x7_1 p330 q330
    cases e330
    replace hx330_0 := (HB.out.cell (World.block_lt_of_cell? w _ hx330_0)).trans hx330_0
    replace hx330_1 := (HB.out.cell (World.block_lt_of_cell? w _ hx330_1)).trans hx330_1
    replace hx330_2 := (HB.out.cell (World.block_lt_of_cell? w _ hx330_2)).trans hx330_2
    replace hx330_3 := (HB.out.cell (World.block_lt_of_cell? w _ hx330_3)).trans hx330_3
    replace p330 := eq_true p330
    replace q330 := eq_true q330
    go_wp2_with (first | ((with_reducible refine gate_dst (N := 4) rfl ?_); refine box_event ?hg (N := 4) ?hd (cs := #[.int .i64 0, .int .i64 0, .int .i64 0, .int .i64 0]) (t := 42) ?hr ?_; (case hd => rfl); (case hg => rfl); (case hr => first | (go_simp; done) | (go_simp; rfl)); intro gb331 hg w8 hbox hb; have n0_ := Aside0.mk (below_step (bw HB.out) hb); have n1_ := Aside0.mk (hbox); have n2_ := ge_ hg HB.out; have n3_ := ge_ hg HB.out; replace HB := n0_; have BK331 := n1_; have GW331 := n2_; have GE331 := n3_; clear n0_ n1_ n2_ n3_; clear hb hbox hg; obtain ⟨hcz9_0, hcz9_1, hcz9_2, hcz9_3, hfz9_0, hfz9_1, hfz9_2, hfz9_3⟩ := bz4 BK331.out))
    go_ret
    exact ⟨by first | rfl | (simp [errW_none, errW_some] <;> rfl) | (simp [*, errW_none, errW_some] <;> rfl), by repeat (first | (with_reducible first | exact bw HB.out | refine bset ?_ | apply bA | apply bN | apply bD) | exact HB.out)⟩
   rw [if_pos c5] at H
   have c5b0 : (((rd_T42 l0 x7_1).f2) == 0) = true := beq_iff_eq.mpr c5
   have c5b1 : (((rd_T42 l0 x7_1).f2) != 0) = false := bne_eq_false_iff_eq.mpr c5
   clear c5
   have H' := Aside0.mk H
   clear H
   have p330 : 0 ≤ (x7_1 : Int) := of_decide_eq_true (by first | (with_reducible assumption) | assumption)
   have q330 : x7_1 < (l0.length : Int) := of_decide_eq_true (by first | (with_reducible assumption) | assumption)
   obtain ⟨ad330, e330, hx330_0, hx330_1, hx330_2, hx330_3⟩ := at_T42 HR0.out x7_1 p330 q330
   cases e330
   replace hx330_0 := (HB.out.cell (World.block_lt_of_cell? w _ hx330_0)).trans hx330_0
   replace hx330_1 := (HB.out.cell (World.block_lt_of_cell? w _ hx330_1)).trans hx330_1
   replace hx330_2 := (HB.out.cell (World.block_lt_of_cell? w _ hx330_2)).trans hx330_2
   replace hx330_3 := (HB.out.cell (World.block_lt_of_cell? w _ hx330_3)).trans hx330_3
   replace p330 := eq_true p330
   replace q330 := eq_true q330
   go_wp2_with (first | ((with_reducible refine gate_dst (N := 4) rfl ?_); refine box_event ?hg (N := 4) ?hd (cs := #[.int .i64 0, .int .i64 0, .int .i64 0, .int .i64 0]) (t := 42) ?hr ?_; (case hd => rfl); (case hg => rfl); (case hr => first | (go_simp; done) | (go_simp; rfl)); intro gb331 hg w6 hbox hb; have n0_ := Aside0.mk (below_step (bw HB.out) hb); have n1_ := Aside0.mk (hbox); have n2_ := ge_ hg HB.out; have n3_ := ge_ hg HB.out; replace HB := n0_; have BK331 := n1_; have GW331 := n2_; have GE331 := n3_; clear n0_ n1_ n2_ n3_; clear hb hbox hg; obtain ⟨hcz7_0, hcz7_1, hcz7_2, hcz7_3, hfz7_0, hfz7_1, hfz7_2, hfz7_3⟩ := bz4 BK331.out))
   go_roundg k1
   case measure => have := HK1.out; omega
   case rel => exact ⟨(wrap64 (x7_1 + 1)), (by first | rfl | (simp; done) | (simp [*]; done)), H', ⟨by have := HK1.out; omega⟩, ⟨by repeat (first | (with_reducible first | exact bw HB.out | refine bset ?_ | apply bA | apply bN | apply bD) | exact HB.out)⟩⟩

/-! ### impl_isRuled: function 35 -/
def impl_isRuled.f (k : Nat) (l0 : List (S42)) (a1 : Int) : Option (Bool) := (impl_IsJobs.f k l0).bind fun t332 => (if t332 = true then (if a1 = 1 then (some true) else ((impl_within.f a1 2 4).bind fun t333 => (if t333 = true then ((impl_isPlain.f k l0).bind fun t334 => (some t334)) else (some false)))) else (some false))
theorem impl_isRuled.mono : ∀ a0 a1 k, LeO (impl_isRuled.f k a0 a1) (impl_isRuled.f (k + 1) a0 a1) := by
 intro a0 a1 k
 unfold impl_isRuled.f
 repeat' first
   | (with_reducible exact impl_IsJobs.mono _ _)
   | (with_reducible exact impl_isPlain.mono _ _)
   | (with_reducible exact LeO.refl _)
   | (with_reducible exact LeO.none _)
   | (with_reducible refine LeO.ite ?_ ?_)
   | (with_reducible refine LeO.bind ?_ (fun _ => ?_))
   | exact impl_IsJobs.mono _ _
   | exact impl_isPlain.mono _ _
   | exact LeO.none _
   | refine LeO.ite ?_ ?_
   | refine LeO.bind ?_ (fun _ => ?_)
set_option maxHeartbeats 8000000 in
set_option maxRecDepth 100000 in
theorem impl_isRuled.calls (k : Nat) (A0 : Option Addr) (c0 : Nat) (l0 : List (S42)) (a1 : Int) (r : Bool) (w : World) (hr0 : Kd.C k42 w A0 l0.length l0) (hc0 : l0.length ≤ c0) (h : impl_isRuled.f k l0 a1 = some r) :
  Calls Try.prog 35 #[.slice A0 l0.length c0, .int .i64 a1] w fun e w' => e = .returned (.bool r) ∧ Below w.heap.size w w' := by
 have HR0 := Aside0.mk hr0
 have HC0 := Aside0.mk hc0
 clear hr0 hc0
 have HB := Aside0.mk (Below.refl w.heap.size w)
 have H : ((impl_IsJobs.f k l0).bind fun t332 => (if t332 = true then (if a1 = 1 then (some true) else ((impl_within.f a1 2 4).bind fun t333 => (if t333 = true then ((impl_isPlain.f k l0).bind fun t334 => (some t334)) else (some false)))) else (some false))) = some r := h
 clear h
 replace H := Option.bind_eq_some_iff.mp H
 obtain ⟨t332, A30, H⟩ := H
 replace H : (if t332 = true then (if a1 = 1 then (some true) else ((impl_within.f a1 2 4).bind fun t333 => (if t333 = true then ((impl_isPlain.f k l0).bind fun t334 => (some t334)) else (some false)))) else (some false)) = some r := H
 have A3 := Aside0.mk A30
 clear A30
 by_cases c4 : t332 = true
 rotate_left
 ·replace c4 := Bool.eq_false_iff.mpr c4
  subst c4
  have H1 : (some false) = some r := by rw [if_neg (show ¬ (false = true) by decide)] at H; exact H
  clear H
  have H := H1
  clear H1
  obtain rfl := Option.some.inj H
  go_enter Try.func35, Try.ntmps35
  go_wp2_with (first | ((with_reducible refine gate_callee (f := 52) rfl ?_); refine goesL_ (some 6) rfl rfl Try.func52 (by kernel_rfl) rfl #[.slice A0 l0.length c0] rfl (by (try simp only [mA_]); first | done | rfl | (simp only [List.length_drop, List.length_take]; rfl)) ?_; (with_reducible refine (impl_IsJobs.calls k _ _ l0 false _ ?side1 ?side2 A3.out).mono ?_); (case side1 => repeat (first | exact HR0.out | (with_reducible refine Kd.C_alloc ?_ _) | (with_reducible refine Kd.C_drewN ?_ _) | (with_reducible refine Kd.C_drew ?_))); (case side2 => exact HC0.out); rintro e w13 ⟨rfl, hb⟩; refine ⟨_, rfl, ?_⟩; have n0_ := Aside0.mk (below_step (bw HB.out) hb); replace HB := n0_; clear n0_; (try clear hb); (try clear hb2); (try clear hk); (try clear hi)))
  go_ret
  exact ⟨by first | rfl | (simp [errW_none, errW_some] <;> rfl) | (simp [*, errW_none, errW_some] <;> rfl), bw HB.out⟩
 subst c4
 have H1 : (if a1 = 1 then (some true) else ((impl_within.f a1 2 4).bind fun t333 => (if t333 = true then ((impl_isPlain.f k l0).bind fun t334 => (some t334)) else (some false)))) = some r := by rw [if_pos rfl] at H; exact H
 clear H
 have H := H1
 clear H1
 by_cases c5 : a1 = 1
 ·rw [if_pos c5] at H
  have c5b0 : (a1 == 1) = true := beq_iff_eq.mpr c5
  have c5b1 : (a1 != 1) = false := bne_eq_false_iff_eq.mpr c5
  clear c5
  obtain rfl := Option.some.inj H
  go_enter Try.func35, Try.ntmps35
  go_wp2_with (first | ((with_reducible refine gate_callee (f := 52) rfl ?_); refine goesL_ (some 6) rfl rfl Try.func52 (by kernel_rfl) rfl #[.slice A0 l0.length c0] rfl (by (try simp only [mA_]); first | done | rfl | (simp only [List.length_drop, List.length_take]; rfl)) ?_; (with_reducible refine (impl_IsJobs.calls k _ _ l0 true _ ?side1 ?side2 A3.out).mono ?_); (case side1 => repeat (first | exact HR0.out | (with_reducible refine Kd.C_alloc ?_ _) | (with_reducible refine Kd.C_drewN ?_ _) | (with_reducible refine Kd.C_drew ?_))); (case side2 => exact HC0.out); rintro e w6 ⟨rfl, hb⟩; refine ⟨_, rfl, ?_⟩; have n0_ := Aside0.mk (below_step (bw HB.out) hb); replace HB := n0_; clear n0_; (try clear hb); (try clear hb2); (try clear hk); (try clear hi)))
  go_ret
  exact ⟨by first | rfl | (simp [errW_none, errW_some] <;> rfl) | (simp [*, errW_none, errW_some] <;> rfl), bw HB.out⟩
 rw [if_neg c5] at H
 have c5b0 : (a1 == 1) = false := beq_eq_false_iff_ne.mpr c5
 have c5b1 : (a1 != 1) = true := bne_iff_ne.mpr c5
 replace H := Option.bind_eq_some_iff.mp H
 obtain ⟨t333, A70, H⟩ := H
 replace H : (if t333 = true then ((impl_isPlain.f k l0).bind fun t334 => (some t334)) else (some false)) = some r := H
 have A7 := Aside0.mk A70
 clear A70
 by_cases c8 : t333 = true
 rotate_left
 ·replace c8 := Bool.eq_false_iff.mpr c8
  subst c8
  have H1 : (some false) = some r := by rw [if_neg (show ¬ (false = true) by decide)] at H; exact H
  clear H
  have H := H1
  clear H1
  obtain rfl := Option.some.inj H
  go_enter Try.func35, Try.ntmps35
  go_wp2_with (first | ((with_reducible refine gate_callee (f := 52) rfl ?_); refine goesL_ (some 6) rfl rfl Try.func52 (by kernel_rfl) rfl #[.slice A0 l0.length c0] rfl (by (try simp only [mA_]); first | done | rfl | (simp only [List.length_drop, List.length_take]; rfl)) ?_; (with_reducible refine (impl_IsJobs.calls k _ _ l0 true _ ?side1 ?side2 A3.out).mono ?_); (case side1 => repeat (first | exact HR0.out | (with_reducible refine Kd.C_alloc ?_ _) | (with_reducible refine Kd.C_drewN ?_ _) | (with_reducible refine Kd.C_drew ?_))); (case side2 => exact HC0.out); rintro e w12 ⟨rfl, hb⟩; refine ⟨_, rfl, ?_⟩; have n0_ := Aside0.mk (below_step (bw HB.out) hb); replace HB := n0_; clear n0_; (try clear hb); (try clear hb2); (try clear hk); (try clear hi)) | (go_at_call 25; (with_reducible refine (impl_within.calls a1 2 4 false _ A7.out).mono ?_); rintro e w' ⟨rfl, ⟨nd, rfl⟩⟩))
  go_ret
  exact ⟨by first | rfl | (simp [errW_none, errW_some] <;> rfl) | (simp [*, errW_none, errW_some] <;> rfl), bw HB.out⟩
 subst c8
 have H1 : ((impl_isPlain.f k l0).bind fun t334 => (some t334)) = some r := by rw [if_pos rfl] at H; exact H
 clear H
 have H := H1
 clear H1
 replace H := Option.bind_eq_some_iff.mp H
 obtain ⟨t334, A90, H⟩ := H
 replace H : (some t334) = some r := H
 have A9 := Aside0.mk A90
 clear A90
 obtain rfl := Option.some.inj H
 go_enter Try.func35, Try.ntmps35
 go_wp2_with (first | ((with_reducible refine gate_callee (f := 52) rfl ?_); refine goesL_ (some 6) rfl rfl Try.func52 (by kernel_rfl) rfl #[.slice A0 l0.length c0] rfl (by (try simp only [mA_]); first | done | rfl | (simp only [List.length_drop, List.length_take]; rfl)) ?_; (with_reducible refine (impl_IsJobs.calls k _ _ l0 true _ ?side1 ?side2 A3.out).mono ?_); (case side1 => repeat (first | exact HR0.out | (with_reducible refine Kd.C_alloc ?_ _) | (with_reducible refine Kd.C_drewN ?_ _) | (with_reducible refine Kd.C_drew ?_))); (case side2 => exact HC0.out); rintro e w10 ⟨rfl, hb⟩; refine ⟨_, rfl, ?_⟩; have n0_ := Aside0.mk (below_step (bw HB.out) hb); replace HB := n0_; clear n0_; (try clear hb); (try clear hb2); (try clear hk); (try clear hi)) | (go_at_call 25; (with_reducible refine (impl_within.calls a1 2 4 true _ A7.out).mono ?_); rintro e w' ⟨rfl, ⟨nd, rfl⟩⟩) | (go_at_call 53; (with_reducible refine (impl_isPlain.calls k _ _ l0 t334 _ ?side1 ?side2 A9.out).mono ?_); (case side1 => repeat (first | exact (Kd.C_below HR0.out (bw HB.out)) | (with_reducible refine Kd.C_alloc ?_ _) | (with_reducible refine Kd.C_drewN ?_ _) | (with_reducible refine Kd.C_drew ?_))); (case side2 => exact HC0.out); rintro e w11 ⟨rfl, hb⟩; have n0_ := Aside0.mk (below_step (bw HB.out) hb); replace HB := n0_; clear n0_; (try clear hb); (try clear hb2); (try clear hk); (try clear hi)))
 go_ret
 exact ⟨by first | rfl | (simp [errW_none, errW_some] <;> rfl) | (simp [*, errW_none, errW_some] <;> rfl), bw HB.out⟩

/-! ### impl_isNumber: function 62 -/
def impl_isNumber.f (a0 : Int) (a1 : Int) : Option (Bool) := (impl_within.f a0 0 (wrap64 (a1 - 1))).bind fun t335 => (some t335)
set_option maxHeartbeats 8000000 in
set_option maxRecDepth 100000 in
theorem impl_isNumber.calls (a0 : Int) (a1 : Int) (r : Bool) (w : World) (h : impl_isNumber.f a0 a1 = some r) :
  Calls Try.prog 62 #[.int .i64 a0, .int .i64 a1] w fun e w' => e = .returned (.bool r) ∧ Drawn0 w w' := by
 have H : ((impl_within.f a0 0 (wrap64 (a1 - 1))).bind fun t335 => (some t335)) = some r := h
 clear h
 replace H := Option.bind_eq_some_iff.mp H
 obtain ⟨t335, A30, H⟩ := H
 replace H : (some t335) = some r := H
 have A3 := Aside0.mk A30
 clear A30
 obtain rfl := Option.some.inj H
 go_enter Try.func62, Try.ntmps62
 go_wp2_with (first | ((with_reducible refine gate_callee (f := 25) rfl ?_); refine goesL_ (some 8) rfl rfl Try.func25 (by kernel_rfl) rfl #[.int .i64 a0, .int .i64 0, .int .i64 (wrap64 (a1 - 1))] rfl (by (try simp only [mA_]); first | done | rfl | (simp only [List.length_drop, List.length_take]; rfl)) ?_; (with_reducible refine (impl_within.calls a0 0 (wrap64 (a1 - 1)) t335 _ A3.out).mono ?_); rintro e w' ⟨rfl, ⟨nd, rfl⟩⟩; refine ⟨_, rfl, ?_⟩))
 go_ret
 exact ⟨by first | rfl | (simp; done) | (simp [*]; done), by repeat (first | exact Drawn0.refl _ | apply Drawn0.step)⟩

/-! ### impl_has: function 63 -/
def impl_has.l0 : Nat → Int → List Int → Int → Int → Option (Bool)
 | 0, _, _, _, _ => none
 | k + 1, x1, x7, x8, x9 => if x9 < x8 then (if 0 ≤ x9 then (if x9 < (x7.length : Int) then (if (rd x7 x9) = x1 then (some true) else (impl_has.l0 k x1 x7 x8 (wrap64 (x9 + 1)))) else (none)) else (none)) else (some false)
def impl_has.f (k : Nat) (l0 : List Int) (a1 : Int) : Option (Bool) := impl_has.l0 k a1 l0 (l0.length : Int) 0
theorem impl_has.mono_l : ∀ k, (∀ y0 y1 y2 y3, LeO (impl_has.l0 k y0 y1 y2 y3) (impl_has.l0 (k + 1) y0 y1 y2 y3))
 | 0 => fun _ _ _ _ r h => by simp [impl_has.l0] at h
 | k + 1 => by
  have ih0 := impl_has.mono_l k
  ·intro y0 y1 y2 y3
   unfold impl_has.l0
   repeat' first
   | (with_reducible exact ih0 _ _ _ _)
   | (with_reducible exact LeO.refl _)
   | (with_reducible exact LeO.none _)
   | (with_reducible refine LeO.ite ?_ ?_)
   | (with_reducible refine LeO.bind ?_ (fun _ => ?_))
   | exact ih0 _ _ _ _
   | exact LeO.none _
   | refine LeO.ite ?_ ?_
   | refine LeO.bind ?_ (fun _ => ?_)
theorem impl_has.mono : ∀ a0 a1 k, LeO (impl_has.f k a0 a1) (impl_has.f (k + 1) a0 a1) := by
 intro a0 a1 k
 have ih0 := impl_has.mono_l k
 unfold impl_has.f
 repeat' first
   | (with_reducible exact ih0 _ _ _ _)
   | (with_reducible exact LeO.refl _)
   | (with_reducible exact LeO.none _)
   | (with_reducible refine LeO.ite ?_ ?_)
   | (with_reducible refine LeO.bind ?_ (fun _ => ?_))
   | exact ih0 _ _ _ _
   | exact LeO.none _
   | refine LeO.ite ?_ ?_
   | refine LeO.bind ?_ (fun _ => ?_)
set_option maxHeartbeats 8000000 in
set_option maxRecDepth 100000 in
theorem impl_has.calls (k : Nat) (A0 : Option Addr) (c0 : Nat) (l0 : List Int) (a1 : Int) (r : Bool) (w : World) (hr0 : Kd.C (Kd.int .i64) w A0 l0.length l0) (hc0 : l0.length ≤ c0) (h : impl_has.f k l0 a1 = some r) :
  Calls Try.prog 63 #[.slice A0 l0.length c0, .int .i64 a1] w fun e w' => e = .returned (.bool r) ∧ Drawn0 w w' := by
 have HR0 := Aside0.mk hr0
 have HC0 := Aside0.mk hc0
 clear hr0 hc0
 have H : (impl_has.l0 k a1 l0 (l0.length : Int) 0) = some r := h
 clear h
 have H' := Aside0.mk H
 clear H
 go_enter Try.func63, Try.ntmps63
 go_wp2
 go_loopg [9] k (fun kq v9 w' => ∃ (x9_1 : Int), v9 = .int .i64 x9_1 ∧ Aside0 (impl_has.l0 kq a1 l0 (l0.length : Int) x9_1 = some r) ∧ Aside0 (kq ≤ k) ∧ Drawn0 w w')
 case atStart => exact ⟨(0), (by first | rfl | (simp; done) | (simp [*]; done)), H', ⟨Nat.le_refl _⟩, by repeat (first | exact Drawn0.refl _ | apply Drawn0.step)⟩
 case round =>
  clear H'
  try clear p2
  obtain ⟨x9_1, rfl, HA, HK1, ⟨m1, rfl⟩⟩ := hrel
  cases gk with
  | zero => exact absurd HA.out (by simp [impl_has.l0])
  | succ k1 =>
   have H := HA.out
   clear HA
   simp only [impl_has.l0] at H
   by_cases c3 : x9_1 < (l0.length : Int)
   rotate_left
   ·rw [if_neg c3] at H
    have c3b0 : decide (x9_1 < (l0.length : Int)) = false := decide_eq_false c3
    clear c3
    obtain rfl := Option.some.inj H
    go_wp2
    go_ret
    exact ⟨by first | rfl | (simp; done) | (simp [*]; done), by repeat (first | exact Drawn0.refl _ | apply Drawn0.step)⟩
   rw [if_pos c3] at H
   have c3b0 : decide (x9_1 < (l0.length : Int)) = true := decide_eq_true c3
   clear c3
   by_cases c4 : 0 ≤ x9_1
   rotate_left
   ·rw [if_neg c4] at H
    exact absurd H (by simp)
   rw [if_pos c4] at H
   have c4b0 : decide (0 ≤ x9_1) = true := decide_eq_true c4
   clear c4
   by_cases c5 : x9_1 < (l0.length : Int)
   rotate_left
   ·rw [if_neg c5] at H
    exact absurd H (by simp)
   rw [if_pos c5] at H
   have c5b0 : decide (x9_1 < (l0.length : Int)) = true := decide_eq_true c5
   clear c5
   by_cases c6 : (rd l0 x9_1) = a1
   ·rw [if_pos c6] at H
    have c6b0 : ((rd l0 x9_1) == a1) = true := beq_iff_eq.mpr c6
    have c6b1 : ((rd l0 x9_1) != a1) = false := bne_eq_false_iff_eq.mpr c6
    clear c6
    obtain rfl := Option.some.inj H
    have p336 : 0 ≤ (x9_1 : Int) := of_decide_eq_true (by first | (with_reducible assumption) | assumption)
    have q336 : x9_1 < (l0.length : Int) := of_decide_eq_true (by first | (with_reducible assumption) | assumption)
    obtain ⟨ad336, e336, hx336_0⟩ := Kd.at_int HR0.out x9_1 p336 q336
    cases e336
    replace p336 := eq_true p336
    replace q336 := eq_true q336
    go_wp2
    go_ret
    exact ⟨by first | rfl | (simp; done) | (simp [*]; done), by repeat (first | exact Drawn0.refl _ | apply Drawn0.step)⟩
   rw [if_neg c6] at H
   have c6b0 : ((rd l0 x9_1) == a1) = false := beq_eq_false_iff_ne.mpr c6
   have c6b1 : ((rd l0 x9_1) != a1) = true := bne_iff_ne.mpr c6
   have H' := Aside0.mk H
   clear H
   have p336 : 0 ≤ (x9_1 : Int) := of_decide_eq_true (by first | (with_reducible assumption) | assumption)
   have q336 : x9_1 < (l0.length : Int) := of_decide_eq_true (by first | (with_reducible assumption) | assumption)
   obtain ⟨ad336, e336, hx336_0⟩ := Kd.at_int HR0.out x9_1 p336 q336
   cases e336
   replace p336 := eq_true p336
   replace q336 := eq_true q336
   go_wp2
   go_roundg k1
   case measure => have := HK1.out; omega
   case rel => exact ⟨(wrap64 (x9_1 + 1)), (by first | rfl | (simp; done) | (simp [*]; done)), H', ⟨by have := HK1.out; omega⟩, by repeat (first | exact Drawn0.refl _ | apply Drawn0.step)⟩

/-! ### impl_areDifferent: function 54 -/
def impl_areDifferent.l0 : Nat → Int → List Int → List Int → Int → Int → Option (Bool)
 | 0, _, _, _, _, _ => none
 | k + 1, x0, x1, x7, x8, x9 => if x9 < x8 then (if 0 ≤ x9 then (if x9 < (x7.length : Int) then ((impl_isNumber.f (rd x7 x9) x0).bind fun t338 => (if t338 = true then (if x9 ≤ (x1.length : Int) then ((impl_has.f k (x1.take (x9 : Int).toNat) (rd x7 x9)).bind fun t340 => (if t340 = true then (some false) else (impl_areDifferent.l0 k x0 x1 x7 x8 (wrap64 (x9 + 1))))) else (none)) else (some false))) else (none)) else (none)) else (some true)
def impl_areDifferent.f (k : Nat) (a0 : Int) (l1 : List Int) : Option (Bool) := impl_areDifferent.l0 k a0 l1 l1 (l1.length : Int) 0
theorem impl_areDifferent.mono_l : ∀ k, (∀ y0 y1 y2 y3 y4, LeO (impl_areDifferent.l0 k y0 y1 y2 y3 y4) (impl_areDifferent.l0 (k + 1) y0 y1 y2 y3 y4))
 | 0 => fun _ _ _ _ _ r h => by simp [impl_areDifferent.l0] at h
 | k + 1 => by
  have ih0 := impl_areDifferent.mono_l k
  ·intro y0 y1 y2 y3 y4
   unfold impl_areDifferent.l0
   repeat' first
   | (with_reducible exact ih0 _ _ _ _ _)
   | (with_reducible exact impl_has.mono _ _ _)
   | (with_reducible exact LeO.refl _)
   | (with_reducible exact LeO.none _)
   | (with_reducible refine LeO.ite ?_ ?_)
   | (with_reducible refine LeO.bind ?_ (fun _ => ?_))
   | exact ih0 _ _ _ _ _
   | exact impl_has.mono _ _ _
   | exact LeO.none _
   | refine LeO.ite ?_ ?_
   | refine LeO.bind ?_ (fun _ => ?_)
theorem impl_areDifferent.mono : ∀ a0 a1 k, LeO (impl_areDifferent.f k a0 a1) (impl_areDifferent.f (k + 1) a0 a1) := by
 intro a0 a1 k
 have ih0 := impl_areDifferent.mono_l k
 unfold impl_areDifferent.f
 repeat' first
   | (with_reducible exact ih0 _ _ _ _ _)
   | (with_reducible exact impl_has.mono _ _ _)
   | (with_reducible exact LeO.refl _)
   | (with_reducible exact LeO.none _)
   | (with_reducible refine LeO.ite ?_ ?_)
   | (with_reducible refine LeO.bind ?_ (fun _ => ?_))
   | exact ih0 _ _ _ _ _
   | exact impl_has.mono _ _ _
   | exact LeO.none _
   | refine LeO.ite ?_ ?_
   | refine LeO.bind ?_ (fun _ => ?_)
set_option maxHeartbeats 8000000 in
set_option maxRecDepth 100000 in
theorem impl_areDifferent.calls (k : Nat) (a0 : Int) (A1 : Option Addr) (c1 : Nat) (l1 : List Int) (r : Bool) (w : World) (hr1 : Kd.C (Kd.int .i64) w A1 l1.length l1) (hc1 : l1.length ≤ c1) (h : impl_areDifferent.f k a0 l1 = some r) :
  Calls Try.prog 54 #[.int .i64 a0, .slice A1 l1.length c1] w fun e w' => e = .returned (.bool r) ∧ Drawn0 w w' := by
 have HR1 := Aside0.mk hr1
 have HC1 := Aside0.mk hc1
 clear hr1 hc1
 have H : (impl_areDifferent.l0 k a0 l1 l1 (l1.length : Int) 0) = some r := h
 clear h
 have H' := Aside0.mk H
 clear H
 go_enter Try.func54, Try.ntmps54
 go_wp2
 go_loopg [9] k (fun kq v9 w' => ∃ (x9_1 : Int), v9 = .int .i64 x9_1 ∧ Aside0 (impl_areDifferent.l0 kq a0 l1 l1 (l1.length : Int) x9_1 = some r) ∧ Aside0 (kq ≤ k) ∧ Drawn0 w w')
 case atStart => exact ⟨(0), (by first | rfl | (simp; done) | (simp [*]; done)), H', ⟨Nat.le_refl _⟩, by repeat (first | exact Drawn0.refl _ | apply Drawn0.step)⟩
 case round =>
  clear H'
  try clear c1
  try clear p2
  obtain ⟨x9_1, rfl, HA, HK1, ⟨m1, rfl⟩⟩ := hrel
  cases gk with
  | zero => exact absurd HA.out (by simp [impl_areDifferent.l0])
  | succ k1 =>
   have H := HA.out
   clear HA
   simp only [impl_areDifferent.l0] at H
   by_cases c3 : x9_1 < (l1.length : Int)
   rotate_left
   ·rw [if_neg c3] at H
    have c3b0 : decide (x9_1 < (l1.length : Int)) = false := decide_eq_false c3
    clear c3
    obtain rfl := Option.some.inj H
    go_wp2
    go_ret
    exact ⟨by first | rfl | (simp; done) | (simp [*]; done), by repeat (first | exact Drawn0.refl _ | apply Drawn0.step)⟩
   rw [if_pos c3] at H
   have c3b0 : decide (x9_1 < (l1.length : Int)) = true := decide_eq_true c3
   clear c3
   by_cases c4 : 0 ≤ x9_1
   rotate_left
   ·rw [if_neg c4] at H
    exact absurd H (by simp)
   rw [if_pos c4] at H
   have c4b0 : decide (0 ≤ x9_1) = true := decide_eq_true c4
   clear c4
   by_cases c5 : x9_1 < (l1.length : Int)
   rotate_left
   ·rw [if_neg c5] at H
    exact absurd H (by simp)
   rw [if_pos c5] at H
   have c5b0 : decide (x9_1 < (l1.length : Int)) = true := decide_eq_true c5
   clear c5
   replace H := Option.bind_eq_some_iff.mp H
   obtain ⟨t338, A60, H⟩ := H
   replace H : (if t338 = true then (if x9_1 ≤ (l1.length : Int) then ((impl_has.f k1 (l1.take (x9_1 : Int).toNat) (rd l1 x9_1)).bind fun t340 => (if t340 = true then (some false) else (impl_areDifferent.l0 k1 a0 l1 l1 (l1.length : Int) (wrap64 (x9_1 + 1))))) else (none)) else (some false)) = some r := H
   have A6 := Aside0.mk A60
   clear A60
   by_cases c7 : t338 = true
   rotate_left
   ·replace c7 := Bool.eq_false_iff.mpr c7
    subst c7
    have H1 : (some false) = some r := by rw [if_neg (show ¬ (false = true) by decide)] at H; exact H
    clear H
    have H := H1
    clear H1
    obtain rfl := Option.some.inj H
    have p337 : 0 ≤ (x9_1 : Int) := of_decide_eq_true (by first | (with_reducible assumption) | assumption)
    have q337 : x9_1 < (l1.length : Int) := of_decide_eq_true (by first | (with_reducible assumption) | assumption)
    obtain ⟨ad337, e337, hx337_0⟩ := Kd.at_int HR1.out x9_1 p337 q337
    cases e337
    replace p337 := eq_true p337
    replace q337 := eq_true q337
    go_wp2_with (first | ((with_reducible refine gate_callee (f := 62) rfl ?_); refine goesL_ (some 16) rfl rfl Try.func62 (by kernel_rfl) rfl #[.int .i64 (rd l1 x9_1), .int .i64 a0] rfl (by (try simp only [mA_]); first | done | rfl | (simp only [List.length_drop, List.length_take]; rfl)) ?_; (with_reducible refine (impl_isNumber.calls (rd l1 x9_1) a0 false _ A6.out).mono ?_); rintro e w' ⟨rfl, ⟨nd, rfl⟩⟩; refine ⟨_, rfl, ?_⟩))
    go_ret
    exact ⟨by first | rfl | (simp; done) | (simp [*]; done), by repeat (first | exact Drawn0.refl _ | apply Drawn0.step)⟩
   subst c7
   have H1 : (if x9_1 ≤ (l1.length : Int) then ((impl_has.f k1 (l1.take (x9_1 : Int).toNat) (rd l1 x9_1)).bind fun t340 => (if t340 = true then (some false) else (impl_areDifferent.l0 k1 a0 l1 l1 (l1.length : Int) (wrap64 (x9_1 + 1))))) else (none)) = some r := by rw [if_pos rfl] at H; exact H
   clear H
   have H := H1
   clear H1
   have c8b0 := eq_true (of_decide_eq_true (by first | (with_reducible assumption) | assumption) : 0 ≤ x9_1)
   by_cases c9 : x9_1 ≤ (l1.length : Int)
   rotate_left
   ·rw [if_neg c9] at H
    exact absurd H (by simp)
   rw [if_pos c9] at H
   have c9b0 := eq_true c9
   have c9b1 : decide (x9_1 ≤ (l1.length : Int)) = true := decide_eq_true c9
   clear c9
   replace H := Option.bind_eq_some_iff.mp H
   obtain ⟨t340, A100, H⟩ := H
   replace H : (if t340 = true then (some false) else (impl_areDifferent.l0 k1 a0 l1 l1 (l1.length : Int) (wrap64 (x9_1 + 1)))) = some r := H
   have A10 := Aside0.mk A100
   clear A100
   by_cases c11 : t340 = true
   ·subst c11
    have H1 : (some false) = some r := by rw [if_pos rfl] at H; exact H
    clear H
    have H := H1
    clear H1
    obtain rfl := Option.some.inj H
    have p337 : 0 ≤ (x9_1 : Int) := of_decide_eq_true (by first | (with_reducible assumption) | assumption)
    have q337 : x9_1 < (l1.length : Int) := of_decide_eq_true (by first | (with_reducible assumption) | assumption)
    obtain ⟨ad337, e337, hx337_0⟩ := Kd.at_int HR1.out x9_1 p337 q337
    cases e337
    replace p337 := eq_true p337
    replace q337 := eq_true q337
    go_wp2_with (first | ((with_reducible refine gate_callee (f := 62) rfl ?_); refine goesL_ (some 16) rfl rfl Try.func62 (by kernel_rfl) rfl #[.int .i64 (rd l1 x9_1), .int .i64 a0] rfl (by (try simp only [mA_]); first | done | rfl | (simp only [List.length_drop, List.length_take]; rfl)) ?_; (with_reducible refine (impl_isNumber.calls (rd l1 x9_1) a0 true _ A6.out).mono ?_); rintro e w' ⟨rfl, ⟨nd, rfl⟩⟩; refine ⟨_, rfl, ?_⟩; obtain ⟨i012, hi012, _, hsz12, _⟩ := info_parts info3; obtain ⟨hcut12, hA12, hC12⟩ := print_take_of (P := Try.prog) (Value.int .i64) 0 25 3 .i64 Try.underlying25 hi012 hsz12 (some ad337) c1 l1 x9_1 (of_decide_eq_true (by first | (with_reducible assumption) | assumption)) (of_decide_eq_true (by first | (with_reducible assumption) | assumption)) HC1.out; have HR339 := Aside0.mk (Kd.C_of_reads (h1 := fun _ => rfl) (hA12 _ (Kd.reads_of_C HR1.out))); have HC339 := Aside0.mk hC12; clear hA12 hC12 hi012 hsz12) | (go_at_call 63; (with_reducible refine (calls_args (by first | (rw [take_len l1 x9_1 (of_decide_eq_true (by first | (with_reducible assumption) | assumption))]; done) | (simp; done)) (impl_has.calls k1 (some ad337) c1 (l1.take (x9_1 : Int).toNat) (rd l1 x9_1) true _ ?side1 ?side2 A10.out)).mono ?_); (case side1 => repeat (first | exact HR339.out | (with_reducible refine Kd.C_alloc ?_ _) | (with_reducible refine Kd.C_drewN ?_ _) | (with_reducible refine Kd.C_drew ?_))); (case side2 => exact HC339.out); rintro e w' ⟨rfl, ⟨nd, rfl⟩⟩))
    go_ret
    exact ⟨by first | rfl | (simp; done) | (simp [*]; done), by repeat (first | exact Drawn0.refl _ | apply Drawn0.step)⟩
   replace c11 := Bool.eq_false_iff.mpr c11
   subst c11
   have H1 : (impl_areDifferent.l0 k1 a0 l1 l1 (l1.length : Int) (wrap64 (x9_1 + 1))) = some r := by rw [if_neg (show ¬ (false = true) by decide)] at H; exact H
   clear H
   have H := H1
   clear H1
   have H' := Aside0.mk H
   clear H
   have p337 : 0 ≤ (x9_1 : Int) := of_decide_eq_true (by first | (with_reducible assumption) | assumption)
   have q337 : x9_1 < (l1.length : Int) := of_decide_eq_true (by first | (with_reducible assumption) | assumption)
   obtain ⟨ad337, e337, hx337_0⟩ := Kd.at_int HR1.out x9_1 p337 q337
   cases e337
   replace p337 := eq_true p337
   replace q337 := eq_true q337
   go_wp2_with (first | ((with_reducible refine gate_callee (f := 62) rfl ?_); refine goesL_ (some 16) rfl rfl Try.func62 (by kernel_rfl) rfl #[.int .i64 (rd l1 x9_1), .int .i64 a0] rfl (by (try simp only [mA_]); first | done | rfl | (simp only [List.length_drop, List.length_take]; rfl)) ?_; (with_reducible refine (impl_isNumber.calls (rd l1 x9_1) a0 true _ A6.out).mono ?_); rintro e w' ⟨rfl, ⟨nd, rfl⟩⟩; refine ⟨_, rfl, ?_⟩; obtain ⟨i013, hi013, _, hsz13, _⟩ := info_parts info3; obtain ⟨hcut13, hA13, hC13⟩ := print_take_of (P := Try.prog) (Value.int .i64) 0 25 3 .i64 Try.underlying25 hi013 hsz13 (some ad337) c1 l1 x9_1 (of_decide_eq_true (by first | (with_reducible assumption) | assumption)) (of_decide_eq_true (by first | (with_reducible assumption) | assumption)) HC1.out; have HR339 := Aside0.mk (Kd.C_of_reads (h1 := fun _ => rfl) (hA13 _ (Kd.reads_of_C HR1.out))); have HC339 := Aside0.mk hC13; clear hA13 hC13 hi013 hsz13) | (go_at_call 63; (with_reducible refine (calls_args (by first | (rw [take_len l1 x9_1 (of_decide_eq_true (by first | (with_reducible assumption) | assumption))]; done) | (simp; done)) (impl_has.calls k1 (some ad337) c1 (l1.take (x9_1 : Int).toNat) (rd l1 x9_1) false _ ?side1 ?side2 A10.out)).mono ?_); (case side1 => repeat (first | exact HR339.out | (with_reducible refine Kd.C_alloc ?_ _) | (with_reducible refine Kd.C_drewN ?_ _) | (with_reducible refine Kd.C_drew ?_))); (case side2 => exact HC339.out); rintro e w' ⟨rfl, ⟨nd, rfl⟩⟩))
   go_roundg k1
   case measure => have := HK1.out; omega
   case rel => exact ⟨(wrap64 (x9_1 + 1)), (by first | rfl | (simp; done) | (simp [*]; done)), H', ⟨by have := HK1.out; omega⟩, by repeat (first | exact Drawn0.refl _ | apply Drawn0.step)⟩

/-! ### impl_isOrder: function 36 -/
def impl_isOrder.f (k : Nat) (a0 : Int) (l1 : List Int) : Option (Bool) := if (l1.length : Int) = a0 then ((impl_areDifferent.f k a0 l1).bind fun t341 => (some t341)) else (some false)
theorem impl_isOrder.mono : ∀ a0 a1 k, LeO (impl_isOrder.f k a0 a1) (impl_isOrder.f (k + 1) a0 a1) := by
 intro a0 a1 k
 unfold impl_isOrder.f
 repeat' first
   | (with_reducible exact impl_areDifferent.mono _ _ _)
   | (with_reducible exact LeO.refl _)
   | (with_reducible exact LeO.none _)
   | (with_reducible refine LeO.ite ?_ ?_)
   | (with_reducible refine LeO.bind ?_ (fun _ => ?_))
   | exact impl_areDifferent.mono _ _ _
   | exact LeO.none _
   | refine LeO.ite ?_ ?_
   | refine LeO.bind ?_ (fun _ => ?_)
set_option maxHeartbeats 8000000 in
set_option maxRecDepth 100000 in
theorem impl_isOrder.calls (k : Nat) (a0 : Int) (A1 : Option Addr) (c1 : Nat) (l1 : List Int) (r : Bool) (w : World) (hr1 : Kd.C (Kd.int .i64) w A1 l1.length l1) (hc1 : l1.length ≤ c1) (h : impl_isOrder.f k a0 l1 = some r) :
  Calls Try.prog 36 #[.int .i64 a0, .slice A1 l1.length c1] w fun e w' => e = .returned (.bool r) ∧ Drawn0 w w' := by
 have HR1 := Aside0.mk hr1
 have HC1 := Aside0.mk hc1
 clear hr1 hc1
 have H : (if (l1.length : Int) = a0 then ((impl_areDifferent.f k a0 l1).bind fun t341 => (some t341)) else (some false)) = some r := h
 clear h
 by_cases c3 : (l1.length : Int) = a0
 rotate_left
 ·rw [if_neg c3] at H
  have c3b0 : ((l1.length : Int) == a0) = false := beq_eq_false_iff_ne.mpr c3
  have c3b1 : ((l1.length : Int) != a0) = true := bne_iff_ne.mpr c3
  obtain rfl := Option.some.inj H
  go_enter Try.func36, Try.ntmps36
  go_wp2
  go_ret
  exact ⟨by first | rfl | (simp; done) | (simp [*]; done), by repeat (first | exact Drawn0.refl _ | apply Drawn0.step)⟩
 rw [if_pos c3] at H
 have c3b0 : ((l1.length : Int) == a0) = true := beq_iff_eq.mpr c3
 have c3b1 : ((l1.length : Int) != a0) = false := bne_eq_false_iff_eq.mpr c3
 clear c3
 replace H := Option.bind_eq_some_iff.mp H
 obtain ⟨t341, A40, H⟩ := H
 replace H : (some t341) = some r := H
 have A4 := Aside0.mk A40
 clear A40
 obtain rfl := Option.some.inj H
 go_enter Try.func36, Try.ntmps36
 go_wp2_with (first | (go_at_call 54; (with_reducible refine (impl_areDifferent.calls k a0 _ _ l1 t341 _ ?side1 ?side2 A4.out).mono ?_); (case side1 => repeat (first | exact HR1.out | (with_reducible refine Kd.C_alloc ?_ _) | (with_reducible refine Kd.C_drewN ?_ _) | (with_reducible refine Kd.C_drew ?_))); (case side2 => exact HC1.out); rintro e w' ⟨rfl, ⟨nd, rfl⟩⟩))
 go_ret
 exact ⟨by first | rfl | (simp; done) | (simp [*]; done), by repeat (first | exact Drawn0.refl _ | apply Drawn0.step)⟩

end Go.Proofs.Ytmfmgingdepjbaa.X
