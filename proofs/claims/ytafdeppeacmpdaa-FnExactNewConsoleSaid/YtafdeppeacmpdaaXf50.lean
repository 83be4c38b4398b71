-- Written by a program of this session (wip/gen/xp.py, over the kit's printer). Not trusted: Lean checks it.
import Derived.Test.YtafdeppeacmpdaaX0
import Derived.Test.YtafdeppeacmpdaaXf19
import Derived.Test.YtafdeppeacmpdaaXf20
import Derived.Test.YtafdeppeacmpdaaXf76
import Derived.Test.YtafdeppeacmpdaaXf77
namespace Go.Proofs.Ytafdeppeacmpdaa.X
open Go.RowKit Go.Proofs.YtafdeppeacmpdaaW.PrintWords Go.Proofs.YtafdeppeacmpdaaW.PrintLast Go.Proofs.YtafdeppeacmpdaaW.PrintMore
attribute [local go_sem] max2_int min2_int max_two min_two max_three min_three max_four min_four   -- for this text's walks alone
set_option linter.unusedVariables false
set_option linter.unusedSimpArgs false

/-! ### spec_l12Own: function 107 -/
abbrev q107_0 : Array Bool := ⟨rl_ [16] false⟩
abbrev q107_6 : Array Bool := ⟨rl_ [3, 1, 1, 2, 1, 3, 1, 4] true⟩
abbrev q107_7 : Array Bool := ⟨rl_ [5, 2, 1, 3, 1, 4] true⟩
abbrev q107_8 : Array Bool := ⟨rl_ [6, 1, 1, 3, 1, 4] true⟩
abbrev q107_9 : Array Bool := ⟨rl_ [6, 1, 2, 2, 1, 4] true⟩
abbrev q107_10 : Array Bool := ⟨rl_ [6, 1, 2, 2, 2, 3] true⟩
abbrev q107_11 : Array Bool := ⟨rl_ [13, 3] true⟩
abbrev q107_12 : Array Bool := ⟨rl_ [9, 2, 2, 3] true⟩
abbrev q107_13 : Array Bool := ⟨rl_ [6, 1, 2, 1, 3, 3] true⟩
abbrev q107_14 : Array Bool := ⟨rl_ [10, 1, 2, 3] true⟩
abbrev q107_15 : Array Bool := ⟨rl_ [9, 1, 3, 3] true⟩
abbrev q107_16 : Array Bool := ⟨rl_ [14, 2] true⟩
abbrev q107_18 : Array Bool := ⟨rl_ [16] true⟩
def spec_l12Own.f (a0_0 : Int) (a0_1 : Int) (a0_2 : Int) (l0_3 : List (S137)) (l0_4 : List (S135)) : Option (Int × Int × Int × (List (S137)) × (List (S135))) := (some (([] : List (S137)) : List (S137))).bind fun y883 => (if y883.length + l0_3.length < 4398046511104 then ((some (([] : List (S135)) : List (S135))).bind fun y889 => (if y889.length + l0_4.length < 5864062014805 then (some (a0_0, a0_1, a0_2, (y883 ++ l0_3), (y889 ++ l0_4))) else (none))) else (none))
def spec_l12Own.T1 : Bool × List (List Nat × List Nat) := (true, [([], []), ([0], [0]), ([], []), ([2], [2]), ([], []), ([4], [4]), ([], []), ([], []), ([7], [7]), ([6, 8], [6, 8]), ([], []), ([], []), ([11], [11]), ([10, 12, 9], [10, 12]), ([1, 3, 5, 9, 13], [1, 3, 5, 9, 13]), ([14, 13, 0, 1, 2, 3, 4, 5, 6, 7, 8, 9, 10, 11, 12, 13, 14], [14])])
def spec_l12Own.B1 : List Nat := [0, 1, 0, 4, 0, 16, 0, 0, 128, 448, 0, 0, 2048, 8128, 16383, 32767]
theorem spec_l12Own.tab1 : rtab .any (opsOf Try.f107 1) = spec_l12Own.T1 := by kernel_rfl
theorem spec_l12Own.bits1 : waitsOk spec_l12Own.T1.2 spec_l12Own.B1 = true := by kernel_rfl
set_option maxHeartbeats 8000000 in
set_option maxRecDepth 100000 in
theorem spec_l12Own.calls (a0_0 : Int) (a0_1 : Int) (a0_2 : Int) (A0_3 : Option Addr) (c0_3 : Nat) (l0_3 : List (S137)) (A0_4 : Option Addr) (c0_4 : Nat) (l0_4 : List (S135)) (r1 : Int) (r2 : Int) (r3 : Int) (r4 : List (S137)) (r5 : List (S135)) (w : World) (hr0_3 : Kd.C k137 w A0_3 l0_3.length l0_3) (hc0_3 : l0_3.length ≤ c0_3) (hr0_4 : Kd.C k135 w A0_4 l0_4.length l0_4) (hc0_4 : l0_4.length ≤ c0_4) (h : spec_l12Own.f a0_0 a0_1 a0_2 l0_3 l0_4 = some (r1, r2, r3, r4, r5)) :
  Calls Try.prog 107 #[.agg #[.int .i64 a0_0, .int .i64 a0_1, .int .i64 a0_2, .slice A0_3 l0_3.length c0_3, .slice A0_4 l0_4.length c0_4]] w fun e w' => ∃ v3_ v4_ : Value, e = .returned (.agg #[.int .i64 r1, .int .i64 r2, .int .i64 r3, v3_, v4_]) ∧ Kd.R k137 137 w' w.heap.size (fun _ => True) v3_ r4 ∧ Kd.R k135 135 w' w.heap.size (fun _ => True) v4_ r5 ∧ Below w.heap.size w w' := by
 have hu25 := Try.underlying25
 have HR0_3 := Aside0.mk hr0_3
 have HC0_3 := Aside0.mk hc0_3
 clear hr0_3 hc0_3
 have HR0_4 := Aside0.mk hr0_4
 have HC0_4 := Aside0.mk hc0_4
 clear hr0_4 hc0_4
 have HB := Aside0.mk (Below.refl w.heap.size w)
 have H : ((some (([] : List (S137)) : List (S137))).bind fun y883 => (if y883.length + l0_3.length < 4398046511104 then ((some (([] : List (S135)) : List (S135))).bind fun y889 => (if y889.length + l0_4.length < 5864062014805 then (some (a0_0, a0_1, a0_2, (y883 ++ l0_3), (y889 ++ l0_4))) else (none))) else (none))) = some (r1, r2, r3, r4, r5) := h
 clear h
 obtain ⟨y883, hy883⟩ : ∃ y_ : List (S137), y_ = (([] : List (S137))) := ⟨_, rfl⟩
 replace H : (if y883.length + l0_3.length < 4398046511104 then ((some (([] : List (S135)) : List (S135))).bind fun y889 => (if y889.length + l0_4.length < 5864062014805 then (some (a0_0, a0_1, a0_2, (y883 ++ l0_3), (y889 ++ l0_4))) else (none))) else (none)) = some (r1, r2, r3, r4, r5) := by first | (rw [hy883]; with_reducible exact H) | (have H2_ := (Option.bind_some _ _).symm.trans H; rw [hy883]; with_reducible exact H2_) | (have H2_ := (Option.bind_some _ _).symm.trans H; with_reducible exact H2_) | with_reducible exact H | (rw [hy883]; exact H) | exact H
 have Ny883 := Aside0.mk hy883
 clear hy883
 by_cases c2 : y883.length + l0_3.length < 4398046511104
 rotate_left
 ·rw [if_neg c2] at H
  exact absurd H (by simp)
 rw [if_pos c2] at H
 have LMc2 := Aside0.mk c2
 clear c2
 obtain ⟨y886, hy886⟩ : ∃ y_ : List (S137), y_ = (y883 ++ l0_3) := ⟨_, rfl⟩
 replace H : ((some (([] : List (S135)) : List (S135))).bind fun y889 => (if y889.length + l0_4.length < 5864062014805 then (some (a0_0, a0_1, a0_2, y886, (y889 ++ l0_4))) else (none))) = some (r1, r2, r3, r4, r5) := by first | (rw [hy886]; with_reducible exact H) | (have H2_ := (Option.bind_some _ _).symm.trans H; rw [hy886]; with_reducible exact H2_) | (have H2_ := (Option.bind_some _ _).symm.trans H; with_reducible exact H2_) | with_reducible exact H | (rw [hy886]; exact H) | exact H
 have Ny886 := Aside0.mk hy886
 clear hy886
 obtain ⟨y889, hy889⟩ : ∃ y_ : List (S135), y_ = (([] : List (S135))) := ⟨_, rfl⟩
 replace H : (if y889.length + l0_4.length < 5864062014805 then (some (a0_0, a0_1, a0_2, y886, (y889 ++ l0_4))) else (none)) = some (r1, r2, r3, r4, r5) := by first | (rw [hy889]; with_reducible exact H) | (have H2_ := (Option.bind_some _ _).symm.trans H; rw [hy889]; with_reducible exact H2_) | (have H2_ := (Option.bind_some _ _).symm.trans H; with_reducible exact H2_) | with_reducible exact H | (rw [hy889]; exact H) | exact H
 have Ny889 := Aside0.mk hy889
 clear hy889
 by_cases c3 : y889.length + l0_4.length < 5864062014805
 rotate_left
 ·rw [if_neg c3] at H
  exact absurd H (by simp)
 rw [if_pos c3] at H
 have LMc3 := Aside0.mk c3
 clear c3
 obtain ⟨y892, hy892⟩ : ∃ y_ : List (S135), y_ = (y889 ++ l0_4) := ⟨_, rfl⟩
 replace H : (some (a0_0, a0_1, a0_2, y886, y892)) = some (r1, r2, r3, r4, r5) := by first | (rw [hy892]; with_reducible exact H) | (have H2_ := (Option.bind_some _ _).symm.trans H; rw [hy892]; with_reducible exact H2_) | (have H2_ := (Option.bind_some _ _).symm.trans H; with_reducible exact H2_) | with_reducible exact H | (rw [hy892]; exact H) | exact H
 have Ny892 := Aside0.mk hy892
 clear hy892
 simp only [Option.some.injEq, Prod.mk.injEq] at H
 obtain ⟨rfl, rfl, rfl, rfl, rfl⟩ := H
 go_enter Try.func107, Try.ntmps107
 try go_wp2_with (first | ((with_reducible refine gate_dst (N := 1) rfl ?_); refine box_event ?hg (N := 1) ?hd (cs := #[.int .i64 a0_0, .int .i64 a0_1, .int .i64 a0_2, .slice A0_3 l0_3.length c0_3, .slice A0_4 l0_4.length c0_4]) (t := 25) ?hr ?_; (case hd => rfl); (case hg => rfl); (case hr => first | (go_simp; done) | (go_simp; rfl)); intro gb881 hg w4 hbox hb; have n0_ := Aside0.mk (below_step (bw HB.out) hb); have n1_ := Aside0.mk (hbox); have n2_ := ge_ hg HB.out; have n3_ := ge_ hg HB.out; replace HB := n0_; have BK881 := n1_; have GW881 := n2_; have GE881 := n3_; clear n0_ n1_ n2_ n3_; clear hb hbox hg) | ((with_reducible refine gate_dst (N := 2) rfl ?_); refine box_event ?hg (N := 2) ?hd (cs := #[.int .i64 0, .int .i64 0, .int .i64 0, .slice none 0 0, .slice none 0 0]) (t := 25) ?hr ?_; (case hd => rfl); (case hg => rfl); (case hr => first | (go_simp; done) | (go_simp; rfl)); intro gb882 hg w5 hbox hb; have n0_ := Aside0.mk (blk_below (bs BK881.out) hb); have n1_ := Aside0.mk (below_step (by repeat (first | (with_reducible first | exact bw HB.out | refine bset ?_ | apply bA | apply bN | apply bD) | exact HB.out)) hb); have n2_ := Aside0.mk (hbox); have n3_ := Aside0.mk ((by rw [hg]; exact (below_size (by repeat (first | (with_reducible first | exact bw HB.out | refine bset ?_ | apply bA | apply bN | apply bD) | exact HB.out))) : w.heap.size ≤ gb882)); have n4_ := Aside0.mk ((by rw [hg]; exact (below_size (by repeat (first | (with_reducible first | exact bw HB.out | refine bset ?_ | apply bA | apply bN | apply bD) | exact HB.out))) : w.heap.size ≤ gb882)); have n5_ := ne_ hg BK881.out; have n6_ := en_ hg BK881.out; replace BK881 := n0_; replace HB := n1_; have BK882 := n2_; have GW882 := n3_; have GE882 := n4_; have NB881_882 := n5_; have NB882_881 := n6_; clear n0_ n1_ n2_ n3_ n4_ n5_ n6_; clear hb hbox hg))
 have n0_ := Aside0.mk (blk_drew BK881.out)
 have n1_ := Aside0.mk (blk_drew BK882.out)
 have n2_ := Aside0.mk (below_drew1 HB.out)
 replace BK881 := n0_
 replace BK882 := n1_
 replace HB := n2_
 clear n0_ n1_ n2_
 refine start_ (n := 16) (S := fun w' => w'.cell? ⟨gb881, 0, none⟩ = some (.int .i64 a0_0) ∧ w'.cell? ⟨gb881, 1, none⟩ = some (.int .i64 a0_1) ∧ w'.cell? ⟨gb881, 2, none⟩ = some (.int .i64 a0_2) ∧ w'.cell? ⟨gb881, 3, none⟩ = some (.slice A0_3 l0_3.length c0_3) ∧ w'.cell? ⟨gb881, 4, none⟩ = some (.slice A0_4 l0_4.length c0_4)) (ds := []) q107_0 (by kernel_rfl) rfl rfl ⟨(blk_cell BK881.out 0).trans rfl, (blk_cell BK881.out 1).trans rfl, (blk_cell BK881.out 2).trans rfl, (blk_cell BK881.out 3).trans rfl, (blk_cell BK881.out 4).trans rfl⟩ (fun hHeld => ?_); refine with_tabW spec_l12Own.tab1 spec_l12Own.bits1 (fun HT_ HW_ => ?_)
 generalize w5.drew = w6 at BK881 BK882 HB hHeld ⊢
 refine pup_ (i := 0) (N := some 3) HT_ rfl rfl (by kernel_rfl) (fun _ _ _ h => h) (Or.inl ⟨by rfl, by intro w'; go_simp; with_reducible rfl⟩) (by simp only [aq_]; rfl) ?_
 refine pup_ (i := 2) (N := some 5) HT_ rfl rfl (by kernel_rfl) (fun _ _ _ h => h) (Or.inl ⟨by rfl, by intro w'; go_simp; with_reducible rfl⟩) (by simp only [aq_]; rfl) ?_
 refine pup_ (i := 4) (N := some 7) HT_ rfl rfl (by kernel_rfl) (fun _ _ _ h => h) (Or.inl ⟨by rfl, by intro w'; go_simp; with_reducible rfl⟩) (by simp only [aq_]; rfl) ?_
 refine pup_ (i := 7) (N := some 10) HT_ rfl rfl (by kernel_rfl) (fun _ _ _ h => h) (Or.inl ⟨by rfl, by intro w'; go_simp; with_reducible rfl⟩) (by simp only [aq_]; rfl) ?_
 refine pup_ (i := 11) (N := some 14) HT_ rfl rfl (by kernel_rfl) (fun _ _ _ h => h) (Or.inl ⟨by rfl, by intro w'; go_simp; with_reducible rfl⟩) (by simp only [aq_]; rfl) ?_
 refine take_ (i := 1) (N := some 4) (v := ?_) (a' := ?_) q107_6 rfl rfl (take_ofW HT_.out HW_.out (by kernel_rfl)) (fun _ _ _ h => h) (Or.inl ⟨by rfl, ?_⟩) hHeld ?_ ?_
 rotate_left
 ·rintro w' ⟨s0, s1, s2, s3, s4⟩
  go_simp
  with_reducible rfl
 rotate_left
 ·simp only [aq_]
  rfl
 refine take_ (i := 3) (N := some 6) (v := ?_) (a' := ?_) q107_7 rfl rfl (take_ofW HT_.out HW_.out (by kernel_rfl)) (fun _ _ _ h => h) (Or.inl ⟨by rfl, ?_⟩) hHeld ?_ ?_
 rotate_left
 ·rintro w' ⟨s0, s1, s2, s3, s4⟩
  go_simp
  with_reducible rfl
 rotate_left
 ·simp only [aq_]
  rfl
 refine take_ (i := 5) (N := some 8) (v := ?_) (a' := ?_) q107_8 rfl rfl (take_ofW HT_.out HW_.out (by kernel_rfl)) (fun _ _ _ h => h) (Or.inl ⟨by rfl, ?_⟩) hHeld ?_ ?_
 rotate_left
 ·rintro w' ⟨s0, s1, s2, s3, s4⟩
  go_simp
  with_reducible rfl
 rotate_left
 ·simp only [aq_]
  rfl
 refine take_ (i := 8) (N := some 11) (v := ?_) (a' := ?_) q107_9 rfl rfl (take_ofW HT_.out HW_.out (by kernel_rfl)) (fun _ _ _ h => h) (Or.inl ⟨by rfl, ?_⟩) hHeld ?_ ?_
 rotate_left
 ·rintro w' ⟨s0, s1, s2, s3, s4⟩
  go_simp
  with_reducible rfl
 rotate_left
 ·simp only [aq_]
  rfl
 refine take_ (i := 12) (N := some 15) (v := ?_) (a' := ?_) q107_10 rfl rfl (take_ofW HT_.out HW_.out (by kernel_rfl)) (fun _ _ _ h => h) (Or.inl ⟨by rfl, ?_⟩) hHeld ?_ ?_
 rotate_left
 ·rintro w' ⟨s0, s1, s2, s3, s4⟩
  go_simp
  with_reducible rfl
 rotate_left
 ·simp only [aq_]
  rfl
 refine join_ (σ := Value × Value × Value) 3 q107_11 (fun s_ => [(9, s_.1), (12, s_.2.1), (13, s_.2.2)]) (fun s_ w' => (w'.cell? ⟨gb881, 0, none⟩ = some (.int .i64 a0_0) ∧ w'.cell? ⟨gb881, 1, none⟩ = some (.int .i64 a0_1) ∧ w'.cell? ⟨gb881, 2, none⟩ = some (.int .i64 a0_2) ∧ w'.cell? ⟨gb881, 3, none⟩ = some (.slice A0_3 l0_3.length c0_3) ∧ w'.cell? ⟨gb881, 4, none⟩ = some (.slice A0_4 l0_4.length c0_4)) ∧ (Kd.R k137 137 w' w.heap.size (fun _ => True) s_.2.1 y886) ∧ (Kd.R k135 135 w' w.heap.size (fun _ => True) s_.2.2 y889) ∧ (w'.heap[gb881]? = some (.cells #[.int .i64 a0_0, .int .i64 a0_1, .int .i64 a0_2, .slice A0_3 l0_3.length c0_3, .slice A0_4 l0_4.length c0_4] 25 (0, 0))) ∧ (w'.heap[gb882]? = some (.cells #[.int .i64 0, .int .i64 0, .int .i64 0, .slice none 0 0, .slice none 0 0] 25 (0, 0))) ∧ (Below w.heap.size w w')) ?_ ?_
 rotate_left
 ·intro hCont
  refine two_ (i := 6) (j := 10) (Ni := some 9) (Nj := some 13) q107_12 q107_13 rfl rfl rfl rfl (two_of HT_.out (by kernel_rfl)) (by decide) (by decide) (fun K hK => ?_) (fun K hK => ?_)
  ·skip
   refine Kd.R_lit_step k137 _ 137 ?hg (N := 9) ?hd (xs := ([] : List (S137))) (inner := []) (ok := fun _ => True) (okp := fun _ => True) ?hr ?hp (fun _ hk => hk) trivial (Below.refl _ _) (Nat.le_refl _) (by simp) ?_; (case hd => rfl); (case hg => rfl); (case hr => first | (go_simp; done) | (go_simp; rfl)); (case hp => exact (Reps.none _ _))
   intro v884 w7 ho8 hb hg_ hnew_
   clear hg_ hnew_
   (first | rw [← Ny883.out] at ho8 | (simp only [Int.reduceToNat] at ho8; rw [← Ny883.out] at ho8))
   have n0_ := Aside0.mk (Kd.R_lower ho8 (below_size (by repeat (first | (with_reducible first | exact bw HB.out | refine bset ?_ | apply bA | apply bN | apply bD) | exact HB.out))))
   have n1_ := Aside0.mk (blk_below (bs BK881.out) hb)
   have n2_ := Aside0.mk (blk_below (bs BK882.out) hb)
   have n3_ := Aside0.mk (below_step (by repeat (first | (with_reducible first | exact bw HB.out | refine bset ?_ | apply bA | apply bN | apply bD) | exact HB.out)) hb)
   have HO885 := n0_
   replace BK881 := n1_
   replace BK882 := n2_
   replace HB := n3_
   clear n0_ n1_ n2_ n3_
   clear hb ho8
   refine hK.out _ _ ⟨(blk_cell BK881.out 0).trans rfl, (blk_cell BK881.out 1).trans rfl, (blk_cell BK881.out 2).trans rfl, (blk_cell BK881.out 3).trans rfl, (blk_cell BK881.out 4).trans rfl⟩ (fun hHeld => ?_)
   clear hK K
   refine norm_ (a' := ?_) ?_ ?_
   rotate_left
   ·show Act.put _ (some 9) _ = _
    simp only [aq_]
    rfl
   refine two_ (i := 9) (j := 10) (Ni := some 12) (Nj := some 13) q107_14 q107_15 rfl rfl rfl rfl (two_of HT_.out (by kernel_rfl)) (by decide) (by decide) (fun K hK => ?_) (fun K hK => ?_)
   ·skip
    refine Kd.R_append_rows_step k137 (w0 := w) w.heap.size (by rfl) (.tmp 9) (.tmp 11) 22 137 (.agg #[(.int .i64 0), (.int .i64 0), (.int .i64 0), (.int .i64 0)]) 32 rfl Try.underlying22 info137 rfl (by decide) (by omega) v884 y883 l0_3 _ _ _ (fun _ => True) (fun _ => False) rfl rfl ?aO ?aR (fun _ _ h => h) (fun _ h => h.elim) ?aF ?aB ?aS ?aL ?_
    (case aR => first | exact bC HR0_3.out HB.out | exact Kd.C_below HR0_3.out HB.out)
    (case aB => exact (by repeat (first | (with_reducible first | exact bw HB.out | refine bset ?_ | apply bA | apply bN | apply bD) | exact HB.out)))
    (case aF => exact (fun _ _ => trivial))
    (case aO => exact (bR HO885.out))
    (case aS => exact (below_size (by repeat (first | (with_reducible first | exact bw HB.out | refine bset ?_ | apply bA | apply bN | apply bD) | exact HB.out))))
    (case aL => have := LMc2.out; omega)
    intro v887 w9 ho hb hg hat
    rw [← Ny886.out] at ho
    have n0_ := Aside0.mk (blk_grown (bs BK881.out) hg (Kd.R_ne HO885.out BK881.out (by decide)))
    have n1_ := Aside0.mk (blk_grown (bs BK882.out) hg (Kd.R_ne HO885.out BK882.out (by decide)))
    have n2_ := Aside0.mk (hb)
    have n3_ := Aside0.mk (ho)
    clear HO885
    replace BK881 := n0_
    replace BK882 := n1_
    replace HB := n2_
    have HO888 := n3_
    clear n0_ n1_ n2_ n3_
    clear ho hb hg hat
    refine hK.out _ _ ⟨(blk_cell BK881.out 0).trans rfl, (blk_cell BK881.out 1).trans rfl, (blk_cell BK881.out 2).trans rfl, (blk_cell BK881.out 3).trans rfl, (blk_cell BK881.out 4).trans rfl⟩ (fun hHeld => ?_)
    clear hK K
    refine norm_ (a' := ?_) ?_ ?_
    rotate_left
    ·show Act.put _ (some 12) _ = _
     simp only [aq_]
     rfl
    refine one_ (i := 10) (N := some 13) q107_11 rfl rfl (one_of HT_.out (by kernel_rfl)) (by decide) (fun K hK => ?_)
    refine Kd.R_lit_step k135 _ 135 ?hg (N := 13) ?hd (xs := ([] : List (S135))) (inner := []) (ok := fun _ => True) (okp := fun _ => True) ?hr ?hp (fun _ hk => hk) trivial (Below.refl _ _) (Nat.le_refl _) (by simp) ?_; (case hd => rfl); (case hg => rfl); (case hr => first | (go_simp; done) | (go_simp; rfl)); (case hp => exact (Reps.none _ _))
    intro v890 w10 ho11 hb hg_ hnew_
    clear hg_ hnew_
    (first | rw [← Ny889.out] at ho11 | (simp only [Int.reduceToNat] at ho11; rw [← Ny889.out] at ho11))
    have n0_ := Aside0.mk (Kd.R_below (bR HO888.out) hb)
    have n1_ := Aside0.mk (Kd.R_lower ho11 (below_size (by repeat (first | (with_reducible first | exact bw HB.out | refine bset ?_ | apply bA | apply bN | apply bD) | exact HB.out))))
    have n2_ := Aside0.mk (blk_below (bs BK881.out) hb)
    have n3_ := Aside0.mk (blk_below (bs BK882.out) hb)
    have n4_ := Aside0.mk (below_step (by repeat (first | (with_reducible first | exact bw HB.out | refine bset ?_ | apply bA | apply bN | apply bD) | exact HB.out)) hb)
    replace HO888 := n0_
    have HO891 := n1_
    replace BK881 := n2_
    replace BK882 := n3_
    replace HB := n4_
    clear n0_ n1_ n2_ n3_ n4_
    clear hb ho11
    refine hK.out _ _ ⟨(blk_cell BK881.out 0).trans rfl, (blk_cell BK881.out 1).trans rfl, (blk_cell BK881.out 2).trans rfl, (blk_cell BK881.out 3).trans rfl, (blk_cell BK881.out 4).trans rfl⟩ (fun hHeld => ?_)
    clear hK K
    refine norm_ (a' := ?_) ?_ ?_
    rotate_left
    ·show Act.put _ (some 13) _ = _
     simp only [aq_]
     rfl
    exact norm_ (by simp only [putAll, Act.put, List.setIfInBounds_toArray, List.set_cons_zero, List.set_cons_succ]) (hCont (v884, v887, v890) _ ⟨hHeld, (bR HO888.out), (bR HO891.out), (bs BK881.out), (bs BK882.out), (by repeat (first | (with_reducible first | exact bw HB.out | refine bset ?_ | apply bA | apply bN | apply bD) | exact HB.out))⟩)
   ·skip
    refine Kd.R_lit_step k135 _ 135 ?hg (N := 13) ?hd (xs := ([] : List (S135))) (inner := []) (ok := fun _ => True) (okp := fun _ => True) ?hr ?hp (fun _ hk => hk) trivial (Below.refl _ _) (Nat.le_refl _) (by simp) ?_; (case hd => rfl); (case hg => rfl); (case hr => first | (go_simp; done) | (go_simp; rfl)); (case hp => exact (Reps.none _ _))
    intro v890 w9 ho10 hb hg_ hnew_
    clear hg_ hnew_
    (first | rw [← Ny889.out] at ho10 | (simp only [Int.reduceToNat] at ho10; rw [← Ny889.out] at ho10))
    have n0_ := Aside0.mk (Kd.R_below (bR HO885.out) hb)
    have n1_ := Aside0.mk (Kd.R_lower ho10 (below_size (by repeat (first | (with_reducible first | exact bw HB.out | refine bset ?_ | apply bA | apply bN | apply bD) | exact HB.out))))
    have n2_ := Aside0.mk (blk_below (bs BK881.out) hb)
    have n3_ := Aside0.mk (blk_below (bs BK882.out) hb)
    have n4_ := Aside0.mk (below_step (by repeat (first | (with_reducible first | exact bw HB.out | refine bset ?_ | apply bA | apply bN | apply bD) | exact HB.out)) hb)
    replace HO885 := n0_
    have HO891 := n1_
    replace BK881 := n2_
    replace BK882 := n3_
    replace HB := n4_
    clear n0_ n1_ n2_ n3_ n4_
    clear hb ho10
    refine hK.out _ _ ⟨(blk_cell BK881.out 0).trans rfl, (blk_cell BK881.out 1).trans rfl, (blk_cell BK881.out 2).trans rfl, (blk_cell BK881.out 3).trans rfl, (blk_cell BK881.out 4).trans rfl⟩ (fun hHeld => ?_)
    clear hK K
    refine norm_ (a' := ?_) ?_ ?_
    rotate_left
    ·show Act.put _ (some 13) _ = _
     simp only [aq_]
     rfl
    refine one_ (i := 9) (N := some 12) q107_11 rfl rfl (one_of HT_.out (by kernel_rfl)) (by decide) (fun K hK => ?_)
    refine Kd.R_append_rows_step k137 (w0 := w) w.heap.size (by rfl) (.tmp 9) (.tmp 11) 22 137 (.agg #[(.int .i64 0), (.int .i64 0), (.int .i64 0), (.int .i64 0)]) 32 rfl Try.underlying22 info137 rfl (by decide) (by omega) v884 y883 l0_3 _ _ _ (fun _ => True) (fun _ => False) rfl rfl ?aO ?aR (fun _ _ h => h) (fun _ h => h.elim) ?aF ?aB ?aS ?aL ?_
    (case aR => first | exact bC HR0_3.out HB.out | exact Kd.C_below HR0_3.out HB.out)
    (case aB => exact (by repeat (first | (with_reducible first | exact bw HB.out | refine bset ?_ | apply bA | apply bN | apply bD) | exact HB.out)))
    (case aF => exact (fun _ _ => trivial))
    (case aO => exact (bR HO885.out))
    (case aS => exact (below_size (by repeat (first | (with_reducible first | exact bw HB.out | refine bset ?_ | apply bA | apply bN | apply bD) | exact HB.out))))
    (case aL => have := LMc2.out; omega)
    intro v887 w11 ho hb hg hat
    rw [← Ny886.out] at ho
    have n0_ := Aside0.mk (blk_grown (bs BK881.out) hg (Kd.R_ne HO885.out BK881.out (by decide)))
    have n1_ := Aside0.mk (blk_grown (bs BK882.out) hg (Kd.R_ne HO885.out BK882.out (by decide)))
    have n2_ := Aside0.mk (Kd.R_over' (bR HO891.out) (Kd.R_typed (bR HO885.out)) (by decide) hg)
    have n3_ := Aside0.mk (hb)
    have n4_ := Aside0.mk (ho)
    clear HO885
    replace BK881 := n0_
    replace BK882 := n1_
    replace HO891 := n2_
    replace HB := n3_
    have HO888 := n4_
    clear n0_ n1_ n2_ n3_ n4_
    clear ho hb hg hat
    refine hK.out _ _ ⟨(blk_cell BK881.out 0).trans rfl, (blk_cell BK881.out 1).trans rfl, (blk_cell BK881.out 2).trans rfl, (blk_cell BK881.out 3).trans rfl, (blk_cell BK881.out 4).trans rfl⟩ (fun hHeld => ?_)
    clear hK K
    refine norm_ (a' := ?_) ?_ ?_
    rotate_left
    ·show Act.put _ (some 12) _ = _
     simp only [aq_]
     rfl
    exact norm_ (by simp only [putAll, Act.put, List.setIfInBounds_toArray, List.set_cons_zero, List.set_cons_succ]) (hCont (v884, v887, v890) _ ⟨hHeld, (bR HO888.out), (bR HO891.out), (bs BK881.out), (bs BK882.out), (by repeat (first | (with_reducible first | exact bw HB.out | refine bset ?_ | apply bA | apply bN | apply bD) | exact HB.out))⟩)
  ·skip
   refine Kd.R_lit_step k135 _ 135 ?hg (N := 13) ?hd (xs := ([] : List (S135))) (inner := []) (ok := fun _ => True) (okp := fun _ => True) ?hr ?hp (fun _ hk => hk) trivial (Below.refl _ _) (Nat.le_refl _) (by simp) ?_; (case hd => rfl); (case hg => rfl); (case hr => first | (go_simp; done) | (go_simp; rfl)); (case hp => exact (Reps.none _ _))
   intro v890 w7 ho8 hb hg_ hnew_
   clear hg_ hnew_
   (first | rw [← Ny889.out] at ho8 | (simp only [Int.reduceToNat] at ho8; rw [← Ny889.out] at ho8))
   have n0_ := Aside0.mk (Kd.R_lower ho8 (below_size (by repeat (first | (with_reducible first | exact bw HB.out | refine bset ?_ | apply bA | apply bN | apply bD) | exact HB.out))))
   have n1_ := Aside0.mk (blk_below (bs BK881.out) hb)
   have n2_ := Aside0.mk (blk_below (bs BK882.out) hb)
   have n3_ := Aside0.mk (below_step (by repeat (first | (with_reducible first | exact bw HB.out | refine bset ?_ | apply bA | apply bN | apply bD) | exact HB.out)) hb)
   have HO891 := n0_
   replace BK881 := n1_
   replace BK882 := n2_
   replace HB := n3_
   clear n0_ n1_ n2_ n3_
   clear hb ho8
   refine hK.out _ _ ⟨(blk_cell BK881.out 0).trans rfl, (blk_cell BK881.out 1).trans rfl, (blk_cell BK881.out 2).trans rfl, (blk_cell BK881.out 3).trans rfl, (blk_cell BK881.out 4).trans rfl⟩ (fun hHeld => ?_)
   clear hK K
   refine norm_ (a' := ?_) ?_ ?_
   rotate_left
   ·show Act.put _ (some 13) _ = _
    simp only [aq_]
    rfl
   refine one_ (i := 6) (N := some 9) q107_15 rfl rfl (one_of HT_.out (by kernel_rfl)) (by decide) (fun K hK => ?_)
   refine Kd.R_lit_step k137 _ 137 ?hg (N := 9) ?hd (xs := ([] : List (S137))) (inner := []) (ok := fun _ => True) (okp := fun _ => True) ?hr ?hp (fun _ hk => hk) trivial (Below.refl _ _) (Nat.le_refl _) (by simp) ?_; (case hd => rfl); (case hg => rfl); (case hr => first | (go_simp; done) | (go_simp; rfl)); (case hp => exact (Reps.none _ _))
   intro v884 w9 ho10 hb hg_ hnew_
   clear hg_ hnew_
   (first | rw [← Ny883.out] at ho10 | (simp only [Int.reduceToNat] at ho10; rw [← Ny883.out] at ho10))
   have n0_ := Aside0.mk (Kd.R_below (bR HO891.out) hb)
   have n1_ := Aside0.mk (Kd.R_lower ho10 (below_size (by repeat (first | (with_reducible first | exact bw HB.out | refine bset ?_ | apply bA | apply bN | apply bD) | exact HB.out))))
   have n2_ := Aside0.mk (blk_below (bs BK881.out) hb)
   have n3_ := Aside0.mk (blk_below (bs BK882.out) hb)
   have n4_ := Aside0.mk (below_step (by repeat (first | (with_reducible first | exact bw HB.out | refine bset ?_ | apply bA | apply bN | apply bD) | exact HB.out)) hb)
   replace HO891 := n0_
   have HO885 := n1_
   replace BK881 := n2_
   replace BK882 := n3_
   replace HB := n4_
   clear n0_ n1_ n2_ n3_ n4_
   clear hb ho10
   refine hK.out _ _ ⟨(blk_cell BK881.out 0).trans rfl, (blk_cell BK881.out 1).trans rfl, (blk_cell BK881.out 2).trans rfl, (blk_cell BK881.out 3).trans rfl, (blk_cell BK881.out 4).trans rfl⟩ (fun hHeld => ?_)
   clear hK K
   refine norm_ (a' := ?_) ?_ ?_
   rotate_left
   ·show Act.put _ (some 9) _ = _
    simp only [aq_]
    rfl
   refine one_ (i := 9) (N := some 12) q107_11 rfl rfl (one_of HT_.out (by kernel_rfl)) (by decide) (fun K hK => ?_)
   refine Kd.R_append_rows_step k137 (w0 := w) w.heap.size (by rfl) (.tmp 9) (.tmp 11) 22 137 (.agg #[(.int .i64 0), (.int .i64 0), (.int .i64 0), (.int .i64 0)]) 32 rfl Try.underlying22 info137 rfl (by decide) (by omega) v884 y883 l0_3 _ _ _ (fun _ => True) (fun _ => False) rfl rfl ?aO ?aR (fun _ _ h => h) (fun _ h => h.elim) ?aF ?aB ?aS ?aL ?_
   (case aR => first | exact bC HR0_3.out HB.out | exact Kd.C_below HR0_3.out HB.out)
   (case aB => exact (by repeat (first | (with_reducible first | exact bw HB.out | refine bset ?_ | apply bA | apply bN | apply bD) | exact HB.out)))
   (case aF => exact (fun _ _ => trivial))
   (case aO => exact (bR HO885.out))
   (case aS => exact (below_size (by repeat (first | (with_reducible first | exact bw HB.out | refine bset ?_ | apply bA | apply bN | apply bD) | exact HB.out))))
   (case aL => have := LMc2.out; omega)
   intro v887 w11 ho hb hg hat
   rw [← Ny886.out] at ho
   have n0_ := Aside0.mk (blk_grown (bs BK881.out) hg (Kd.R_ne HO885.out BK881.out (by decide)))
   have n1_ := Aside0.mk (blk_grown (bs BK882.out) hg (Kd.R_ne HO885.out BK882.out (by decide)))
   have n2_ := Aside0.mk (Kd.R_over' (bR HO891.out) (Kd.R_typed (bR HO885.out)) (by decide) hg)
   have n3_ := Aside0.mk (hb)
   have n4_ := Aside0.mk (ho)
   clear HO885
   replace BK881 := n0_
   replace BK882 := n1_
   replace HO891 := n2_
   replace HB := n3_
   have HO888 := n4_
   clear n0_ n1_ n2_ n3_ n4_
   clear ho hb hg hat
   refine hK.out _ _ ⟨(blk_cell BK881.out 0).trans rfl, (blk_cell BK881.out 1).trans rfl, (blk_cell BK881.out 2).trans rfl, (blk_cell BK881.out 3).trans rfl, (blk_cell BK881.out 4).trans rfl⟩ (fun hHeld => ?_)
   clear hK K
   refine norm_ (a' := ?_) ?_ ?_
   rotate_left
   ·show Act.put _ (some 12) _ = _
    simp only [aq_]
    rfl
   exact norm_ (by simp only [putAll, Act.put, List.setIfInBounds_toArray, List.set_cons_zero, List.set_cons_succ]) (hCont (v884, v887, v890) _ ⟨hHeld, (bR HO888.out), (bR HO891.out), (bs BK881.out), (bs BK882.out), (by repeat (first | (with_reducible first | exact bw HB.out | refine bset ?_ | apply bA | apply bN | apply bD) | exact HB.out))⟩)
 rintro ⟨v884, v887, v890⟩ w12 ⟨hS_, h0_, h1_, h2_, h3_, h4_⟩
 have n0_ : Aside0 (Kd.R k137 137 w12 w.heap.size (fun _ => True) v887 y886) := ⟨h0_⟩
 have n1_ : Aside0 (Kd.R k135 135 w12 w.heap.size (fun _ => True) v890 y889) := ⟨h1_⟩
 have n2_ : Aside0 (w12.heap[gb881]? = some (.cells #[.int .i64 a0_0, .int .i64 a0_1, .int .i64 a0_2, .slice A0_3 l0_3.length c0_3, .slice A0_4 l0_4.length c0_4] 25 (0, 0))) := ⟨h2_⟩
 have n3_ : Aside0 (w12.heap[gb882]? = some (.cells #[.int .i64 0, .int .i64 0, .int .i64 0, .slice none 0 0, .slice none 0 0] 25 (0, 0))) := ⟨h3_⟩
 have n4_ : Aside0 (Below w.heap.size w w12) := ⟨h4_⟩
 clear BK881
 clear BK882
 clear HB
 clear h0_ h1_ h2_ h3_ h4_
 have HO888 := n0_
 have HO891 := n1_
 have BK881 := n2_
 have BK882 := n3_
 have HB := n4_
 clear n0_ n1_ n2_ n3_ n4_
 have hHeld : w12.cell? ⟨gb881, 0, none⟩ = some (.int .i64 a0_0) ∧ w12.cell? ⟨gb881, 1, none⟩ = some (.int .i64 a0_1) ∧ w12.cell? ⟨gb881, 2, none⟩ = some (.int .i64 a0_2) ∧ w12.cell? ⟨gb881, 3, none⟩ = some (.slice A0_3 l0_3.length c0_3) ∧ w12.cell? ⟨gb881, 4, none⟩ = some (.slice A0_4 l0_4.length c0_4) := hS_
 refine norm_ (a' := ?_) ?_ ?_
 rotate_left
 ·simp only [putAll, Act.put, List.setIfInBounds_toArray, List.set_cons_zero, List.set_cons_succ]
  rfl
 refine one_ (i := 13) (N := some 16) q107_16 rfl rfl (one_of HT_.out (by kernel_rfl)) (by decide) (fun K hK => ?_)
 refine Kd.R_append_rows_step k135 (w0 := w) w.heap.size (by rfl) (.tmp 13) (.tmp 15) 23 135 (.agg #[(.int .i64 0), (.int .i64 0), (.int .i64 0)]) 24 rfl Try.underlying23 info135 rfl (by decide) (by omega) v890 y889 l0_4 _ _ _ (fun _ => True) (fun _ => False) rfl rfl ?aO ?aR (fun _ _ h => h) (fun _ h => h.elim) ?aF ?aB ?aS ?aL ?_
 (case aR => first | exact bC HR0_4.out HB.out | exact Kd.C_below HR0_4.out HB.out)
 (case aB => exact (by repeat (first | (with_reducible first | exact bw HB.out | refine bset ?_ | apply bA | apply bN | apply bD) | exact HB.out)))
 (case aF => exact (fun _ _ => trivial))
 (case aO => exact (bR HO891.out))
 (case aS => exact (below_size (by repeat (first | (with_reducible first | exact bw HB.out | refine bset ?_ | apply bA | apply bN | apply bD) | exact HB.out))))
 (case aL => have := LMc3.out; omega)
 intro v893 w13 ho hb hg hat
 rw [← Ny892.out] at ho
 have n0_ := Aside0.mk (blk_grown (bs BK881.out) hg (Kd.R_ne HO891.out BK881.out (by decide)))
 have n1_ := Aside0.mk (blk_grown (bs BK882.out) hg (Kd.R_ne HO891.out BK882.out (by decide)))
 have n2_ := Aside0.mk (Kd.R_over' (bR HO888.out) (Kd.R_typed (bR HO891.out)) (by decide) hg)
 have n3_ := Aside0.mk (hb)
 have n4_ := Aside0.mk (ho)
 clear HO891
 replace BK881 := n0_
 replace BK882 := n1_
 replace HO888 := n2_
 replace HB := n3_
 have HO894 := n4_
 clear n0_ n1_ n2_ n3_ n4_
 clear ho hb hg hat
 obtain ⟨Ao14, co14, eo14⟩ := Kd.R_slice HO894.out
 (first | subst eo14 | (injection eo14 with f1_ f2_ f3_; have f4_ := f1_.symm; have f5_ := f3_.symm; clear f1_ f2_ f3_; subst f4_; subst f5_))
 obtain ⟨Ao15, co15, eo15⟩ := Kd.R_slice HO888.out
 (first | subst eo15 | (injection eo15 with f1_ f2_ f3_; have f4_ := f1_.symm; have f5_ := f3_.symm; clear f1_ f2_ f3_; subst f4_; subst f5_))
 refine hK.out _ _ ⟨(blk_cell BK881.out 0).trans rfl, (blk_cell BK881.out 1).trans rfl, (blk_cell BK881.out 2).trans rfl, (blk_cell BK881.out 3).trans rfl, (blk_cell BK881.out 4).trans rfl⟩ (fun hHeld => ?_)
 clear hK K
 refine norm_ (a' := ?_) ?_ ?_
 rotate_left
 ·show Act.put _ (some 16) _ = _
  simp only [aq_]
  rfl
 refine pup_ (i := 14) (N := some 17) HT_ rfl rfl (by kernel_rfl) (fun _ _ _ h => h) (Or.inl ⟨by rfl, by intro w'; go_simp; with_reducible rfl⟩) (by simp only [aq_]; rfl) ?_
 refine one_ (i := 15) (N := none) q107_18 rfl rfl (one_of HT_.out (by kernel_rfl)) (by decide) (fun K hK => ?_)
 have hs16 : w13.cell? ⟨gb882, 0, none⟩ = some (.int .i64 0) := (blk_cell BK882.out 0).trans rfl
 have hfs16 := blk_frozen BK882.out 0
 have hns16_0 := NB881_882.out
 have hms16_0 := NB882_881.out
 have hs17 : w13.cell? ⟨gb882, 1, none⟩ = some (.int .i64 0) := (blk_cell BK882.out 1).trans rfl
 have hfs17 := blk_frozen BK882.out 1
 have hns17_0 := NB881_882.out
 have hms17_0 := NB882_881.out
 have hs18 : w13.cell? ⟨gb882, 2, none⟩ = some (.int .i64 0) := (blk_cell BK882.out 2).trans rfl
 have hfs18 := blk_frozen BK882.out 2
 have hns18_0 := NB881_882.out
 have hms18_0 := NB882_881.out
 have hs19 : w13.cell? ⟨gb882, 3, none⟩ = some (.slice none 0 0) := (blk_cell BK882.out 3).trans rfl
 have hfs19 := blk_frozen BK882.out 3
 have hns19_0 := NB881_882.out
 have hms19_0 := NB882_881.out
 have hs20 : w13.cell? ⟨gb882, 4, none⟩ = some (.slice none 0 0) := (blk_cell BK882.out 4).trans rfl
 have hfs20 := blk_frozen BK882.out 4
 have hns20_0 := NB881_882.out
 have hms20_0 := NB882_881.out
 refine skip_ (w1 := ?_) (by rfl) rfl ?_ ?_
 rotate_left
 ·go_simp
  rfl
 refine hK.out _ _ ⟨((cell_far (p := ⟨gb882, _, none⟩) NB881_882.out _).trans (((cell_far (p := ⟨gb882, _, none⟩) NB881_882.out _).trans (((cell_far (p := ⟨gb882, _, none⟩) NB881_882.out _).trans (((cell_far (p := ⟨gb882, _, none⟩) NB881_882.out _).trans (((cell_far (p := ⟨gb882, _, none⟩) NB881_882.out _).trans (hHeld.1)))))))))), ((cell_far (p := ⟨gb882, _, none⟩) NB881_882.out _).trans (((cell_far (p := ⟨gb882, _, none⟩) NB881_882.out _).trans (((cell_far (p := ⟨gb882, _, none⟩) NB881_882.out _).trans (((cell_far (p := ⟨gb882, _, none⟩) NB881_882.out _).trans (((cell_far (p := ⟨gb882, _, none⟩) NB881_882.out _).trans (hHeld.2.1)))))))))), ((cell_far (p := ⟨gb882, _, none⟩) NB881_882.out _).trans (((cell_far (p := ⟨gb882, _, none⟩) NB881_882.out _).trans (((cell_far (p := ⟨gb882, _, none⟩) NB881_882.out _).trans (((cell_far (p := ⟨gb882, _, none⟩) NB881_882.out _).trans (((cell_far (p := ⟨gb882, _, none⟩) NB881_882.out _).trans (hHeld.2.2.1)))))))))), ((cell_far (p := ⟨gb882, _, none⟩) NB881_882.out _).trans (((cell_far (p := ⟨gb882, _, none⟩) NB881_882.out _).trans (((cell_far (p := ⟨gb882, _, none⟩) NB881_882.out _).trans (((cell_far (p := ⟨gb882, _, none⟩) NB881_882.out _).trans (((cell_far (p := ⟨gb882, _, none⟩) NB881_882.out _).trans (hHeld.2.2.2.1)))))))))), ((cell_far (p := ⟨gb882, _, none⟩) NB881_882.out _).trans (((cell_far (p := ⟨gb882, _, none⟩) NB881_882.out _).trans (((cell_far (p := ⟨gb882, _, none⟩) NB881_882.out _).trans (((cell_far (p := ⟨gb882, _, none⟩) NB881_882.out _).trans (((cell_far (p := ⟨gb882, _, none⟩) NB881_882.out _).trans (hHeld.2.2.2.2))))))))))⟩ (fun hHeld => ?_)
 clear hK K
 refine done_ (done_of HT_.out (by kernel_rfl)) ?_
 try go_wp2
 refine bodyPost_ret (results_cell_row rfl _ _ gb882 25 #[.int .i64 a0_0, .int .i64 a0_1, .int .i64 a0_2, .slice Ao15 y886.length co15, .slice Ao14 y892.length co14] (0, 0) _ rfl (by (with_reducible repeat (first | refine blk_drewN ?_ _ | refine blk_drew ?_ | refine blk_alloc ?_ _)); refine blk_put (cs := #[.int .i64 a0_0, .int .i64 a0_1, .int .i64 a0_2, .slice Ao15 y886.length co15, .slice none 0 0]) ?_ 4 _ rfl; (with_reducible repeat (first | refine blk_drewN ?_ _ | refine blk_drew ?_ | refine blk_alloc ?_ _)); refine blk_put (cs := #[.int .i64 a0_0, .int .i64 a0_1, .int .i64 a0_2, .slice none 0 0, .slice none 0 0]) ?_ 3 _ rfl; (with_reducible repeat (first | refine blk_drewN ?_ _ | refine blk_drew ?_ | refine blk_alloc ?_ _)); refine blk_put (cs := #[.int .i64 a0_0, .int .i64 a0_1, .int .i64 0, .slice none 0 0, .slice none 0 0]) ?_ 2 _ rfl; (with_reducible repeat (first | refine blk_drewN ?_ _ | refine blk_drew ?_ | refine blk_alloc ?_ _)); refine blk_put (cs := #[.int .i64 a0_0, .int .i64 0, .int .i64 0, .slice none 0 0, .slice none 0 0]) ?_ 1 _ rfl; (with_reducible repeat (first | refine blk_drewN ?_ _ | refine blk_drew ?_ | refine blk_alloc ?_ _)); refine blk_put (cs := #[.int .i64 0, .int .i64 0, .int .i64 0, .slice none 0 0, .slice none 0 0]) ?_ 0 _ rfl; exact bs BK882.out) Try.underlying25 rfl (by kernel_rfl)) rfl ?_
 exact ⟨_, _, by first | rfl | (simp [errW_none, errW_some] <;> rfl) | (simp [*, errW_none, errW_some] <;> rfl), by (with_reducible repeat (first | apply Kd.R_alloc | apply Kd.R_drewN | apply Kd.R_drew)); exact Kd.R_mono (Kd.R_far (p := ⟨gb882, 4, none⟩) (Kd.R_far (p := ⟨gb882, 3, none⟩) (Kd.R_far (p := ⟨gb882, 2, none⟩) (Kd.R_far (p := ⟨gb882, 1, none⟩) (Kd.R_far (p := ⟨gb882, 0, none⟩) (Kd.R_types HO888.out BK882.out (by decide)) (fun _ hk => hk.2) (.int .i64 a0_0)) (fun _ hk => hk.2) (.int .i64 a0_1)) (fun _ hk => hk.2) (.int .i64 a0_2)) (fun _ hk => hk.2) (.slice Ao15 y886.length co15)) (fun _ hk => hk.2) (.slice Ao14 y892.length co14)) (fun _ hk => trivial), by (with_reducible repeat (first | apply Kd.R_alloc | apply Kd.R_drewN | apply Kd.R_drew)); exact Kd.R_mono (Kd.R_far (p := ⟨gb882, 4, none⟩) (Kd.R_far (p := ⟨gb882, 3, none⟩) (Kd.R_far (p := ⟨gb882, 2, none⟩) (Kd.R_far (p := ⟨gb882, 1, none⟩) (Kd.R_far (p := ⟨gb882, 0, none⟩) (Kd.R_types HO894.out BK882.out (by decide)) (fun _ hk => hk.2) (.int .i64 a0_0)) (fun _ hk => hk.2) (.int .i64 a0_1)) (fun _ hk => hk.2) (.int .i64 a0_2)) (fun _ hk => hk.2) (.slice Ao15 y886.length co15)) (fun _ hk => hk.2) (.slice Ao14 y892.length co14)) (fun _ hk => trivial), by repeat (first | (with_reducible first | exact bw HB.out | refine bset ?_ | apply bA | apply bN | apply bD) | exact HB.out)⟩

/-! ### spec_NewConsole: function 50 -/
def spec_NewConsole.f (k : Nat) (a0_0 : Int) (a0_1 : Int) (a0_2 : Int) (l0_3 : List (S137)) (l0_4 : List (S135)) : Option (Int × Int × Int × (List (S137)) × (List (S135)) × ByteArray × ByteArray × Int × Bool) := (spec_l12Good.f k a0_0 a0_1 a0_2 l0_3 l0_4).bind fun t897 => (if t897 = true then ((spec_l12Own.f a0_0 a0_1 a0_2 l0_3 l0_4).bind fun bt898 => (some (bt898.1, bt898.2.1, bt898.2.2.1, bt898.2.2.2.1, bt898.2.2.2.2, (⟨#[]⟩ : ByteArray), (⟨#[]⟩ : ByteArray), 0, true))) else (some (0, 0, 0, ([] : List (S137)), ([] : List (S135)), (⟨#[]⟩ : ByteArray), (⟨#[]⟩ : ByteArray), 0, false)))
theorem spec_NewConsole.mono : ∀ a0 a1 a2 a3 a4 k, LeO (spec_NewConsole.f k a0 a1 a2 a3 a4) (spec_NewConsole.f (k + 1) a0 a1 a2 a3 a4) := by
 intro a0 a1 a2 a3 a4 k
 unfold spec_NewConsole.f
 repeat' first
   | (with_reducible exact spec_l12Good.mono _ _ _ _ _ _)
   | (with_reducible exact LeO.refl _)
   | (with_reducible exact LeO.none _)
   | (with_reducible refine LeO.ite ?_ ?_)
   | (with_reducible refine LeO.bind ?_ (fun _ => ?_))
   | exact spec_l12Good.mono _ _ _ _ _ _
   | exact LeO.none _
   | refine LeO.ite ?_ ?_
   | refine LeO.bind ?_ (fun _ => ?_)
set_option maxHeartbeats 8000000 in
set_option maxRecDepth 100000 in
theorem spec_NewConsole.calls (k : Nat) (a0_0 : Int) (a0_1 : Int) (a0_2 : Int) (A0_3 : Option Addr) (c0_3 : Nat) (l0_3 : List (S137)) (A0_4 : Option Addr) (c0_4 : Nat) (l0_4 : List (S135)) (r1 : Int) (r2 : Int) (r3 : Int) (r4 : List (S137)) (r5 : List (S135)) (r6 : ByteArray) (r7 : ByteArray) (r8 : Int) (r9 : Bool) (w : World) (hr0_3 : Kd.C k137 w A0_3 l0_3.length l0_3) (hc0_3 : l0_3.length ≤ c0_3) (hr0_4 : Kd.C k135 w A0_4 l0_4.length l0_4) (hc0_4 : l0_4.length ≤ c0_4) (h : spec_NewConsole.f k a0_0 a0_1 a0_2 l0_3 l0_4 = some (r1, r2, r3, r4, r5, r6, r7, r8, r9)) :
  Calls Try.prog 50 #[.agg #[.int .i64 a0_0, .int .i64 a0_1, .int .i64 a0_2, .slice A0_3 l0_3.length c0_3, .slice A0_4 l0_4.length c0_4]] w fun e w' => ∃ v3_ v4_ : Value, e = .returned (.tuple #[.agg #[.int .i64 r1, .int .i64 r2, .int .i64 r3, v3_, v4_, .string r6, .string r7, .int .i64 r8], .bool r9]) ∧ Kd.R k137 137 w' w.heap.size (fun _ => True) v3_ r4 ∧ Kd.R k135 135 w' w.heap.size (fun _ => True) v4_ r5 ∧ Below w.heap.size w w' := by
 have hu25 := Try.underlying25
 have hu72 := Try.underlying72
 have HR0_3 := Aside0.mk hr0_3
 have HC0_3 := Aside0.mk hc0_3
 clear hr0_3 hc0_3
 have HR0_4 := Aside0.mk hr0_4
 have HC0_4 := Aside0.mk hc0_4
 clear hr0_4 hc0_4
 have HB := Aside0.mk (Below.refl w.heap.size w)
 have H : ((spec_l12Good.f k a0_0 a0_1 a0_2 l0_3 l0_4).bind fun t897 => (if t897 = true then ((spec_l12Own.f a0_0 a0_1 a0_2 l0_3 l0_4).bind fun bt898 => (some (bt898.1, bt898.2.1, bt898.2.2.1, bt898.2.2.2.1, bt898.2.2.2.2, (⟨#[]⟩ : ByteArray), (⟨#[]⟩ : ByteArray), 0, true))) else (some (0, 0, 0, ([] : List (S137)), ([] : List (S135)), (⟨#[]⟩ : ByteArray), (⟨#[]⟩ : ByteArray), 0, false)))) = some (r1, r2, r3, r4, r5, r6, r7, r8, r9) := h
 clear h
 replace H := Option.bind_eq_some_iff.mp H
 obtain ⟨t897, A20, H⟩ := H
 replace H : (if t897 = true then ((spec_l12Own.f a0_0 a0_1 a0_2 l0_3 l0_4).bind fun bt898 => (some (bt898.1, bt898.2.1, bt898.2.2.1, bt898.2.2.2.1, bt898.2.2.2.2, (⟨#[]⟩ : ByteArray), (⟨#[]⟩ : ByteArray), 0, true))) else (some (0, 0, 0, ([] : List (S137)), ([] : List (S135)), (⟨#[]⟩ : ByteArray), (⟨#[]⟩ : ByteArray), 0, false))) = some (r1, r2, r3, r4, r5, r6, r7, r8, r9) := H
 have A2 := Aside0.mk A20
 clear A20
 by_cases c3 : t897 = true
 rotate_left
 ·replace c3 := Bool.eq_false_iff.mpr c3
  subst c3
  have H1 : (some (0, 0, 0, ([] : List (S137)), ([] : List (S135)), (⟨#[]⟩ : ByteArray), (⟨#[]⟩ : ByteArray), 0, false)) = some (r1, r2, r3, r4, r5, r6, r7, r8, r9) := by rw [if_neg (show ¬ (false = true) by decide)] at H; exact H
  clear H
  have H := H1
  clear H1
  simp only [Option.some.injEq, Prod.mk.injEq] at H
  obtain ⟨rfl, rfl, rfl, rfl, rfl, rfl, rfl, rfl, rfl⟩ := H
  go_enter Try.func50, Try.ntmps50
  go_wp2_with (first | ((with_reducible refine gate_dst (N := 1) rfl ?_); refine box_event ?hg (N := 1) ?hd (cs := #[.int .i64 a0_0, .int .i64 a0_1, .int .i64 a0_2, .slice A0_3 l0_3.length c0_3, .slice A0_4 l0_4.length c0_4]) (t := 25) ?hr ?_; (case hd => rfl); (case hg => rfl); (case hr => first | (go_simp; done) | (go_simp; rfl)); intro gb895 hg w15 hbox hb; have n0_ := Aside0.mk (below_step (bw HB.out) hb); have n1_ := Aside0.mk (hbox); have n2_ := ge_ hg HB.out; have n3_ := ge_ hg HB.out; replace HB := n0_; have BK895 := n1_; have GW895 := n2_; have GE895 := n3_; clear n0_ n1_ n2_ n3_; clear hb hbox hg) | ((with_reducible refine gate_dst (N := 2) rfl ?_); refine box_event ?hg (N := 2) ?hd (cs := #[.int .i64 0, .int .i64 0, .int .i64 0, .slice none 0 0, .slice none 0 0, .string (⟨#[]⟩ : ByteArray), .string (⟨#[]⟩ : ByteArray), .int .i64 0]) (t := 72) ?hr ?_; (case hd => rfl); (case hg => rfl); (case hr => first | (go_simp; done) | (go_simp; rfl)); intro gb896 hg w16 hbox hb; have n0_ := Aside0.mk (blk_below (bs BK895.out) hb); have n1_ := Aside0.mk (below_step (by repeat (first | (with_reducible first | exact bw HB.out | refine bset ?_ | apply bA | apply bN | apply bD) | exact HB.out)) hb); have n2_ := Aside0.mk (hbox); have n3_ := Aside0.mk ((by rw [hg]; exact (below_size (by repeat (first | (with_reducible first | exact bw HB.out | refine bset ?_ | apply bA | apply bN | apply bD) | exact HB.out))) : w.heap.size ≤ gb896)); have n4_ := Aside0.mk ((by rw [hg]; exact (below_size (by repeat (first | (with_reducible first | exact bw HB.out | refine bset ?_ | apply bA | apply bN | apply bD) | exact HB.out))) : w.heap.size ≤ gb896)); have n5_ := ne_ hg BK895.out; have n6_ := en_ hg BK895.out; replace BK895 := n0_; replace HB := n1_; have BK896 := n2_; have GW896 := n3_; have GE896 := n4_; have NB895_896 := n5_; have NB896_895 := n6_; clear n0_ n1_ n2_ n3_ n4_ n5_ n6_; clear hb hbox hg; have hnb17 := NB895_896.out; have hnc17 := NB896_895.out; obtain ⟨hcz18_0, hcz18_1, hcz18_2, hcz18_3, hcz18_4, hfz18_0, hfz18_1, hfz18_2, hfz18_3, hfz18_4⟩ := bz5 BK895.out) | ((with_reducible refine gate_callee (f := 76) rfl ?_); refine goesL_ (some 5) rfl rfl Try.func76 (by kernel_rfl) rfl #[.agg #[.int .i64 a0_0, .int .i64 a0_1, .int .i64 a0_2, .slice A0_3 l0_3.length c0_3, .slice A0_4 l0_4.length c0_4]] rfl (by (try simp only [mA_]); first | done | rfl | (simp only [List.length_drop, List.length_take]; rfl)) ?_; (with_reducible refine (spec_l12Good.calls k a0_0 a0_1 a0_2 _ _ l0_3 _ _ l0_4 false _ ?side1 ?side2 ?side3 ?side4 A2.out).mono ?_); (case side1 => first | exact bC HR0_3.out HB.out | exact Kd.C_below HR0_3.out HB.out); (case side2 => exact HC0_3.out); (case side3 => first | exact bC HR0_4.out HB.out | exact Kd.C_below HR0_4.out HB.out); (case side4 => exact HC0_4.out); rintro e w19 ⟨rfl, hb⟩; refine ⟨_, rfl, ?_⟩; have n0_ := Aside0.mk (blk_below (bs BK895.out) hb); have n1_ := Aside0.mk (blk_below (bs BK896.out) hb); have n2_ := Aside0.mk (below_step (by repeat (first | (with_reducible first | exact bw HB.out | refine bset ?_ | apply bA | apply bN | apply bD) | exact HB.out)) hb); replace BK895 := n0_; replace BK896 := n1_; replace HB := n2_; clear n0_ n1_ n2_; (try clear hb); (try clear hb2); (try clear hk); (try clear hi); obtain ⟨hcz20_0, hcz20_1, hcz20_2, hcz20_3, hcz20_4, hcz20_5, hcz20_6, hcz20_7, hfz20_0, hfz20_1, hfz20_2, hfz20_3, hfz20_4, hfz20_5, hfz20_6, hfz20_7⟩ := bz8 BK896.out))
  refine bodyPost_ret (results_ct rfl _ _ gb896 72 #[.int .i64 0, .int .i64 0, .int .i64 0, .slice none 0 0, .slice none 0 0, .string (⟨#[]⟩ : ByteArray), .string (⟨#[]⟩ : ByteArray), .int .i64 0] (0, 0) _ rfl (by (with_reducible repeat (first | refine blk_drewN ?_ _ | refine blk_drew ?_ | refine blk_alloc ?_ _)); refine blk_put (cs := #[.int .i64 0, .int .i64 0, .int .i64 0, .slice none 0 0, .slice none 0 0, .string (⟨#[]⟩ : ByteArray), .string (⟨#[]⟩ : ByteArray), .int .i64 0]) ?_ 7 _ rfl; (with_reducible repeat (first | refine blk_drewN ?_ _ | refine blk_drew ?_ | refine blk_alloc ?_ _)); refine blk_put (cs := #[.int .i64 0, .int .i64 0, .int .i64 0, .slice none 0 0, .slice none 0 0, .string (⟨#[]⟩ : ByteArray), .string (⟨#[]⟩ : ByteArray), .int .i64 0]) ?_ 6 _ rfl; (with_reducible repeat (first | refine blk_drewN ?_ _ | refine blk_drew ?_ | refine blk_alloc ?_ _)); refine blk_put (cs := #[.int .i64 0, .int .i64 0, .int .i64 0, .slice none 0 0, .slice none 0 0, .string (⟨#[]⟩ : ByteArray), .string (⟨#[]⟩ : ByteArray), .int .i64 0]) ?_ 5 _ rfl; (with_reducible repeat (first | refine blk_drewN ?_ _ | refine blk_drew ?_ | refine blk_alloc ?_ _)); refine blk_put (cs := #[.int .i64 0, .int .i64 0, .int .i64 0, .slice none 0 0, .slice none 0 0, .string (⟨#[]⟩ : ByteArray), .string (⟨#[]⟩ : ByteArray), .int .i64 0]) ?_ 4 _ rfl; (with_reducible repeat (first | refine blk_drewN ?_ _ | refine blk_drew ?_ | refine blk_alloc ?_ _)); refine blk_put (cs := #[.int .i64 0, .int .i64 0, .int .i64 0, .slice none 0 0, .slice none 0 0, .string (⟨#[]⟩ : ByteArray), .string (⟨#[]⟩ : ByteArray), .int .i64 0]) ?_ 3 _ rfl; (with_reducible repeat (first | refine blk_drewN ?_ _ | refine blk_drew ?_ | refine blk_alloc ?_ _)); refine blk_put (cs := #[.int .i64 0, .int .i64 0, .int .i64 0, .slice none 0 0, .slice none 0 0, .string (⟨#[]⟩ : ByteArray), .string (⟨#[]⟩ : ByteArray), .int .i64 0]) ?_ 2 _ rfl; (with_reducible repeat (first | refine blk_drewN ?_ _ | refine blk_drew ?_ | refine blk_alloc ?_ _)); refine blk_put (cs := #[.int .i64 0, .int .i64 0, .int .i64 0, .slice none 0 0, .slice none 0 0, .string (⟨#[]⟩ : ByteArray), .string (⟨#[]⟩ : ByteArray), .int .i64 0]) ?_ 1 _ rfl; (with_reducible repeat (first | refine blk_drewN ?_ _ | refine blk_drew ?_ | refine blk_alloc ?_ _)); refine blk_put (cs := #[.int .i64 0, .int .i64 0, .int .i64 0, .slice none 0 0, .slice none 0 0, .string (⟨#[]⟩ : ByteArray), .string (⟨#[]⟩ : ByteArray), .int .i64 0]) ?_ 0 _ rfl; exact bs BK896.out) Try.underlying72 rfl (by kernel_rfl)) rfl ?_
  exact ⟨_, _, by first | rfl | (simp [errW_none, errW_some] <;> rfl) | (simp [*, errW_none, errW_some] <;> rfl), by first | exact Kd.R_nil _ _ _ _ _ | exact Kd.N_nil _ _ _ _ _ | exact Kd.V_nil _ _ _ _ _ | exact Kd.Q_nil _ _ _ _ _ | exact Kd.S_nil _ _ _ _ _, by first | exact Kd.R_nil _ _ _ _ _ | exact Kd.N_nil _ _ _ _ _ | exact Kd.V_nil _ _ _ _ _ | exact Kd.Q_nil _ _ _ _ _ | exact Kd.S_nil _ _ _ _ _, by repeat (first | (with_reducible first | exact bw HB.out | refine bset ?_ | apply bA | apply bN | apply bD) | exact HB.out)⟩
 subst c3
 have H1 : ((spec_l12Own.f a0_0 a0_1 a0_2 l0_3 l0_4).bind fun bt898 => (some (bt898.1, bt898.2.1, bt898.2.2.1, bt898.2.2.2.1, bt898.2.2.2.2, (⟨#[]⟩ : ByteArray), (⟨#[]⟩ : ByteArray), 0, true))) = some (r1, r2, r3, r4, r5, r6, r7, r8, r9) := by rw [if_pos rfl] at H; exact H
 clear H
 have H := H1
 clear H1
 replace H := Option.bind_eq_some_iff.mp H
 obtain ⟨⟨t898, t899, t900, t901, t904⟩, A40, H⟩ := H
 replace H : (some (t898, t899, t900, t901, t904, (⟨#[]⟩ : ByteArray), (⟨#[]⟩ : ByteArray), 0, true)) = some (r1, r2, r3, r4, r5, r6, r7, r8, r9) := H
 have A4 := Aside0.mk A40
 clear A40
 simp only [Option.some.injEq, Prod.mk.injEq] at H
 obtain ⟨rfl, rfl, rfl, rfl, rfl, rfl, rfl, rfl, rfl⟩ := H
 go_enter Try.func50, Try.ntmps50
 go_wp2_with (first | ((with_reducible refine gate_dst (N := 1) rfl ?_); refine box_event ?hg (N := 1) ?hd (cs := #[.int .i64 a0_0, .int .i64 a0_1, .int .i64 a0_2, .slice A0_3 l0_3.length c0_3, .slice A0_4 l0_4.length c0_4]) (t := 25) ?hr ?_; (case hd => rfl); (case hg => rfl); (case hr => first | (go_simp; done) | (go_simp; rfl)); intro gb895 hg w5 hbox hb; have n0_ := Aside0.mk (below_step (bw HB.out) hb); have n1_ := Aside0.mk (hbox); have n2_ := ge_ hg HB.out; have n3_ := ge_ hg HB.out; replace HB := n0_; have BK895 := n1_; have GW895 := n2_; have GE895 := n3_; clear n0_ n1_ n2_ n3_; clear hb hbox hg) | ((with_reducible refine gate_dst (N := 2) rfl ?_); refine box_event ?hg (N := 2) ?hd (cs := #[.int .i64 0, .int .i64 0, .int .i64 0, .slice none 0 0, .slice none 0 0, .string (⟨#[]⟩ : ByteArray), .string (⟨#[]⟩ : ByteArray), .int .i64 0]) (t := 72) ?hr ?_; (case hd => rfl); (case hg => rfl); (case hr => first | (go_simp; done) | (go_simp; rfl)); intro gb896 hg w6 hbox hb; have n0_ := Aside0.mk (blk_below (bs BK895.out) hb); have n1_ := Aside0.mk (below_step (by repeat (first | (with_reducible first | exact bw HB.out | refine bset ?_ | apply bA | apply bN | apply bD) | exact HB.out)) hb); have n2_ := Aside0.mk (hbox); have n3_ := Aside0.mk ((by rw [hg]; exact (below_size (by repeat (first | (with_reducible first | exact bw HB.out | refine bset ?_ | apply bA | apply bN | apply bD) | exact HB.out))) : w.heap.size ≤ gb896)); have n4_ := Aside0.mk ((by rw [hg]; exact (below_size (by repeat (first | (with_reducible first | exact bw HB.out | refine bset ?_ | apply bA | apply bN | apply bD) | exact HB.out))) : w.heap.size ≤ gb896)); have n5_ := ne_ hg BK895.out; have n6_ := en_ hg BK895.out; replace BK895 := n0_; replace HB := n1_; have BK896 := n2_; have GW896 := n3_; have GE896 := n4_; have NB895_896 := n5_; have NB896_895 := n6_; clear n0_ n1_ n2_ n3_ n4_ n5_ n6_; clear hb hbox hg; have hnb7 := NB895_896.out; have hnc7 := NB896_895.out; obtain ⟨hcz8_0, hcz8_1, hcz8_2, hcz8_3, hcz8_4, hfz8_0, hfz8_1, hfz8_2, hfz8_3, hfz8_4⟩ := bz5 BK895.out) | ((with_reducible refine gate_callee (f := 76) rfl ?_); refine goesL_ (some 5) rfl rfl Try.func76 (by kernel_rfl) rfl #[.agg #[.int .i64 a0_0, .int .i64 a0_1, .int .i64 a0_2, .slice A0_3 l0_3.length c0_3, .slice A0_4 l0_4.length c0_4]] rfl (by (try simp only [mA_]); first | done | rfl | (simp only [List.length_drop, List.length_take]; rfl)) ?_; (with_reducible refine (spec_l12Good.calls k a0_0 a0_1 a0_2 _ _ l0_3 _ _ l0_4 true _ ?side1 ?side2 ?side3 ?side4 A2.out).mono ?_); (case side1 => first | exact bC HR0_3.out HB.out | exact Kd.C_below HR0_3.out HB.out); (case side2 => exact HC0_3.out); (case side3 => first | exact bC HR0_4.out HB.out | exact Kd.C_below HR0_4.out HB.out); (case side4 => exact HC0_4.out); rintro e w9 ⟨rfl, hb⟩; refine ⟨_, rfl, ?_⟩; have n0_ := Aside0.mk (blk_below (bs BK895.out) hb); have n1_ := Aside0.mk (blk_below (bs BK896.out) hb); have n2_ := Aside0.mk (below_step (by repeat (first | (with_reducible first | exact bw HB.out | refine bset ?_ | apply bA | apply bN | apply bD) | exact HB.out)) hb); replace BK895 := n0_; replace BK896 := n1_; replace HB := n2_; clear n0_ n1_ n2_; (try clear hb); (try clear hb2); (try clear hk); (try clear hi); obtain ⟨hcz10_0, hcz10_1, hcz10_2, hcz10_3, hcz10_4, hfz10_0, hfz10_1, hfz10_2, hfz10_3, hfz10_4⟩ := bz5 BK895.out) | ((with_reducible refine gate_callee (f := 107) rfl ?_); refine goesL_ (some 9) rfl rfl Try.func107 (by kernel_rfl) rfl #[.agg #[.int .i64 a0_0, .int .i64 a0_1, .int .i64 a0_2, .slice A0_3 l0_3.length c0_3, .slice A0_4 l0_4.length c0_4]] rfl (by (try simp only [mA_]); first | done | rfl | (simp only [List.length_drop, List.length_take]; rfl)) ?_; (with_reducible refine (spec_l12Own.calls a0_0 a0_1 a0_2 _ _ l0_3 _ _ l0_4 t898 t899 t900 t901 t904 _ ?side1 ?side2 ?side3 ?side4 A4.out).mono ?_); (case side1 => first | exact bC HR0_3.out HB.out | exact Kd.C_below HR0_3.out HB.out); (case side2 => exact HC0_3.out); (case side3 => first | exact bC HR0_4.out HB.out | exact Kd.C_below HR0_4.out HB.out); (case side4 => exact HC0_4.out); rintro e w11 ⟨v902, v905, rfl, ho0, ho1, hb⟩; refine ⟨_, rfl, ?_⟩; have n0_ := Aside0.mk (Kd.R_lower ho0 (below_size (by repeat (first | (with_reducible first | exact bw HB.out | refine bset ?_ | apply bA | apply bN | apply bD) | exact HB.out)))); have n1_ := Aside0.mk (Kd.R_lower ho1 (below_size (by repeat (first | (with_reducible first | exact bw HB.out | refine bset ?_ | apply bA | apply bN | apply bD) | exact HB.out)))); have n2_ := Aside0.mk (blk_below (bs BK895.out) hb); have n3_ := Aside0.mk (blk_below (bs BK896.out) hb); have n4_ := Aside0.mk (below_step (by repeat (first | (with_reducible first | exact bw HB.out | refine bset ?_ | apply bA | apply bN | apply bD) | exact HB.out)) hb); have HO903 := n0_; have HO906 := n1_; replace BK895 := n2_; replace BK896 := n3_; replace HB := n4_; clear n0_ n1_ n2_ n3_ n4_; (try clear hb); (try clear hb2); (try clear hk); (try clear hi); (try clear ho0); (try clear ho1); obtain ⟨Ao12, co12, eo12⟩ := Kd.R_slice HO906.out; subst eo12; obtain ⟨Ao13, co13, eo13⟩ := Kd.R_slice HO903.out; subst eo13; obtain ⟨hcz14_0, hcz14_1, hcz14_2, hcz14_3, hcz14_4, hcz14_5, hcz14_6, hcz14_7, hfz14_0, hfz14_1, hfz14_2, hfz14_3, hfz14_4, hfz14_5, hfz14_6, hfz14_7⟩ := bz8 BK896.out))
 refine bodyPost_ret (results_ct rfl _ _ gb896 72 #[.int .i64 t898, .int .i64 t899, .int .i64 t900, .slice Ao13 t901.length co13, .slice Ao12 t904.length co12, .string (⟨#[]⟩ : ByteArray), .string (⟨#[]⟩ : ByteArray), .int .i64 0] (0, 0) _ rfl (by (with_reducible repeat (first | refine blk_drewN ?_ _ | refine blk_drew ?_ | refine blk_alloc ?_ _)); refine blk_put (cs := #[.int .i64 t898, .int .i64 t899, .int .i64 t900, .slice Ao13 t901.length co13, .slice Ao12 t904.length co12, .string (⟨#[]⟩ : ByteArray), .string (⟨#[]⟩ : ByteArray), .int .i64 0]) ?_ 7 _ rfl; (with_reducible repeat (first | refine blk_drewN ?_ _ | refine blk_drew ?_ | refine blk_alloc ?_ _)); refine blk_put (cs := #[.int .i64 t898, .int .i64 t899, .int .i64 t900, .slice Ao13 t901.length co13, .slice Ao12 t904.length co12, .string (⟨#[]⟩ : ByteArray), .string (⟨#[]⟩ : ByteArray), .int .i64 0]) ?_ 6 _ rfl; (with_reducible repeat (first | refine blk_drewN ?_ _ | refine blk_drew ?_ | refine blk_alloc ?_ _)); refine blk_put (cs := #[.int .i64 t898, .int .i64 t899, .int .i64 t900, .slice Ao13 t901.length co13, .slice Ao12 t904.length co12, .string (⟨#[]⟩ : ByteArray), .string (⟨#[]⟩ : ByteArray), .int .i64 0]) ?_ 5 _ rfl; (with_reducible repeat (first | refine blk_drewN ?_ _ | refine blk_drew ?_ | refine blk_alloc ?_ _)); refine blk_put (cs := #[.int .i64 t898, .int .i64 t899, .int .i64 t900, .slice Ao13 t901.length co13, .slice none 0 0, .string (⟨#[]⟩ : ByteArray), .string (⟨#[]⟩ : ByteArray), .int .i64 0]) ?_ 4 _ rfl; (with_reducible repeat (first | refine blk_drewN ?_ _ | refine blk_drew ?_ | refine blk_alloc ?_ _)); refine blk_put (cs := #[.int .i64 t898, .int .i64 t899, .int .i64 t900, .slice none 0 0, .slice none 0 0, .string (⟨#[]⟩ : ByteArray), .string (⟨#[]⟩ : ByteArray), .int .i64 0]) ?_ 3 _ rfl; (with_reducible repeat (first | refine blk_drewN ?_ _ | refine blk_drew ?_ | refine blk_alloc ?_ _)); refine blk_put (cs := #[.int .i64 t898, .int .i64 t899, .int .i64 0, .slice none 0 0, .slice none 0 0, .string (⟨#[]⟩ : ByteArray), .string (⟨#[]⟩ : ByteArray), .int .i64 0]) ?_ 2 _ rfl; (with_reducible repeat (first | refine blk_drewN ?_ _ | refine blk_drew ?_ | refine blk_alloc ?_ _)); refine blk_put (cs := #[.int .i64 t898, .int .i64 0, .int .i64 0, .slice none 0 0, .slice none 0 0, .string (⟨#[]⟩ : ByteArray), .string (⟨#[]⟩ : ByteArray), .int .i64 0]) ?_ 1 _ rfl; (with_reducible repeat (first | refine blk_drewN ?_ _ | refine blk_drew ?_ | refine blk_alloc ?_ _)); refine blk_put (cs := #[.int .i64 0, .int .i64 0, .int .i64 0, .slice none 0 0, .slice none 0 0, .string (⟨#[]⟩ : ByteArray), .string (⟨#[]⟩ : ByteArray), .int .i64 0]) ?_ 0 _ rfl; exact bs BK896.out) Try.underlying72 rfl (by kernel_rfl)) rfl ?_
 exact ⟨_, _, by first | rfl | (simp [errW_none, errW_some] <;> rfl) | (simp [*, errW_none, errW_some] <;> rfl), by (with_reducible repeat (first | apply Kd.R_alloc | apply Kd.R_drewN | apply Kd.R_drew)); exact Kd.R_mono (Kd.R_far (p := ⟨gb896, 7, none⟩) (Kd.R_far (p := ⟨gb896, 6, none⟩) (Kd.R_far (p := ⟨gb896, 5, none⟩) (Kd.R_far (p := ⟨gb896, 4, none⟩) (Kd.R_far (p := ⟨gb896, 3, none⟩) (Kd.R_far (p := ⟨gb896, 2, none⟩) (Kd.R_far (p := ⟨gb896, 1, none⟩) (Kd.R_far (p := ⟨gb896, 0, none⟩) (Kd.R_types HO903.out BK896.out (by decide)) (fun _ hk => hk.2) (.int .i64 t898)) (fun _ hk => hk.2) (.int .i64 t899)) (fun _ hk => hk.2) (.int .i64 t900)) (fun _ hk => hk.2) (.slice Ao13 t901.length co13)) (fun _ hk => hk.2) (.slice Ao12 t904.length co12)) (fun _ hk => hk.2) (.string (⟨#[]⟩ : ByteArray))) (fun _ hk => hk.2) (.string (⟨#[]⟩ : ByteArray))) (fun _ hk => hk.2) (.int .i64 0)) (fun _ hk => trivial), by (with_reducible repeat (first | apply Kd.R_alloc | apply Kd.R_drewN | apply Kd.R_drew)); exact Kd.R_mono (Kd.R_far (p := ⟨gb896, 7, none⟩) (Kd.R_far (p := ⟨gb896, 6, none⟩) (Kd.R_far (p := ⟨gb896, 5, none⟩) (Kd.R_far (p := ⟨gb896, 4, none⟩) (Kd.R_far (p := ⟨gb896, 3, none⟩) (Kd.R_far (p := ⟨gb896, 2, none⟩) (Kd.R_far (p := ⟨gb896, 1, none⟩) (Kd.R_far (p := ⟨gb896, 0, none⟩) (Kd.R_types HO906.out BK896.out (by decide)) (fun _ hk => hk.2) (.int .i64 t898)) (fun _ hk => hk.2) (.int .i64 t899)) (fun _ hk => hk.2) (.int .i64 t900)) (fun _ hk => hk.2) (.slice Ao13 t901.length co13)) (fun _ hk => hk.2) (.slice Ao12 t904.length co12)) (fun _ hk => hk.2) (.string (⟨#[]⟩ : ByteArray))) (fun _ hk => hk.2) (.string (⟨#[]⟩ : ByteArray))) (fun _ hk => hk.2) (.int .i64 0)) (fun _ hk => trivial), by repeat (first | (with_reducible first | exact bw HB.out | refine bset ?_ | apply bA | apply bN | apply bD) | exact HB.out)⟩

/-! ### impl_Dispatcher_own: function 108 -/
def impl_Dispatcher_own.f (a0_0 : Int) (a0_1 : Int) (a0_2 : Int) (l0_3 : List (S137)) (l0_4 : List (S135)) : Option (Int × Int × Int × (List (S137)) × (List (S135))) := (some (([] : List (S137)) : List (S137))).bind fun y909 => (if y909.length + l0_3.length < 4398046511104 then ((some (([] : List (S135)) : List (S135))).bind fun y915 => (if y915.length + l0_4.length < 5864062014805 then (some (a0_0, a0_1, a0_2, (y909 ++ l0_3), (y915 ++ l0_4))) else (none))) else (none))
set_option maxHeartbeats 8000000 in
set_option maxRecDepth 100000 in
theorem impl_Dispatcher_own.calls (a0_0 : Int) (a0_1 : Int) (a0_2 : Int) (A0_3 : Option Addr) (c0_3 : Nat) (l0_3 : List (S137)) (A0_4 : Option Addr) (c0_4 : Nat) (l0_4 : List (S135)) (r1 : Int) (r2 : Int) (r3 : Int) (r4 : List (S137)) (r5 : List (S135)) (w : World) (hr0_3 : Kd.C k137 w A0_3 l0_3.length l0_3) (hc0_3 : l0_3.length ≤ c0_3) (hr0_4 : Kd.C k135 w A0_4 l0_4.length l0_4) (hc0_4 : l0_4.length ≤ c0_4) (h : impl_Dispatcher_own.f a0_0 a0_1 a0_2 l0_3 l0_4 = some (r1, r2, r3, r4, r5)) :
  Calls Try.prog 108 #[.agg #[.int .i64 a0_0, .int .i64 a0_1, .int .i64 a0_2, .slice A0_3 l0_3.length c0_3, .slice A0_4 l0_4.length c0_4]] w fun e w' => ∃ v3_ v4_ : Value, e = .returned (.agg #[.int .i64 r1, .int .i64 r2, .int .i64 r3, v3_, v4_]) ∧ Kd.R k137 137 w' w.heap.size (fun _ => True) v3_ r4 ∧ Kd.R k135 135 w' w.heap.size (fun _ => True) v4_ r5 ∧ Below w.heap.size w w' := by
 have hu25 := Try.underlying25
 have HR0_3 := Aside0.mk hr0_3
 have HC0_3 := Aside0.mk hc0_3
 clear hr0_3 hc0_3
 have HR0_4 := Aside0.mk hr0_4
 have HC0_4 := Aside0.mk hc0_4
 clear hr0_4 hc0_4
 have HB := Aside0.mk (Below.refl w.heap.size w)
 have H : ((some (([] : List (S137)) : List (S137))).bind fun y909 => (if y909.length + l0_3.length < 4398046511104 then ((some (([] : List (S135)) : List (S135))).bind fun y915 => (if y915.length + l0_4.length < 5864062014805 then (some (a0_0, a0_1, a0_2, (y909 ++ l0_3), (y915 ++ l0_4))) else (none))) else (none))) = some (r1, r2, r3, r4, r5) := h
 clear h
 obtain ⟨y909, hy909⟩ : ∃ y_ : List (S137), y_ = (([] : List (S137))) := ⟨_, rfl⟩
 replace H : (if y909.length + l0_3.length < 4398046511104 then ((some (([] : List (S135)) : List (S135))).bind fun y915 => (if y915.length + l0_4.length < 5864062014805 then (some (a0_0, a0_1, a0_2, (y909 ++ l0_3), (y915 ++ l0_4))) else (none))) else (none)) = some (r1, r2, r3, r4, r5) := by first | (rw [hy909]; with_reducible exact H) | (have H2_ := (Option.bind_some _ _).symm.trans H; rw [hy909]; with_reducible exact H2_) | (have H2_ := (Option.bind_some _ _).symm.trans H; with_reducible exact H2_) | with_reducible exact H | (rw [hy909]; exact H) | exact H
 have Ny909 := Aside0.mk hy909
 clear hy909
 by_cases c2 : y909.length + l0_3.length < 4398046511104
 rotate_left
 ·rw [if_neg c2] at H
  exact absurd H (by simp)
 rw [if_pos c2] at H
 have LMc2 := Aside0.mk c2
 clear c2
 obtain ⟨y912, hy912⟩ : ∃ y_ : List (S137), y_ = (y909 ++ l0_3) := ⟨_, rfl⟩
 replace H : ((some (([] : List (S135)) : List (S135))).bind fun y915 => (if y915.length + l0_4.length < 5864062014805 then (some (a0_0, a0_1, a0_2, y912, (y915 ++ l0_4))) else (none))) = some (r1, r2, r3, r4, r5) := by first | (rw [hy912]; with_reducible exact H) | (have H2_ := (Option.bind_some _ _).symm.trans H; rw [hy912]; with_reducible exact H2_) | (have H2_ := (Option.bind_some _ _).symm.trans H; with_reducible exact H2_) | with_reducible exact H | (rw [hy912]; exact H) | exact H
 have Ny912 := Aside0.mk hy912
 clear hy912
 obtain ⟨y915, hy915⟩ : ∃ y_ : List (S135), y_ = (([] : List (S135))) := ⟨_, rfl⟩
 replace H : (if y915.length + l0_4.length < 5864062014805 then (some (a0_0, a0_1, a0_2, y912, (y915 ++ l0_4))) else (none)) = some (r1, r2, r3, r4, r5) := by first | (rw [hy915]; with_reducible exact H) | (have H2_ := (Option.bind_some _ _).symm.trans H; rw [hy915]; with_reducible exact H2_) | (have H2_ := (Option.bind_some _ _).symm.trans H; with_reducible exact H2_) | with_reducible exact H | (rw [hy915]; exact H) | exact H
 have Ny915 := Aside0.mk hy915
 clear hy915
 by_cases c3 : y915.length + l0_4.length < 5864062014805
 rotate_left
 ·rw [if_neg c3] at H
  exact absurd H (by simp)
 rw [if_pos c3] at H
 have LMc3 := Aside0.mk c3
 clear c3
 obtain ⟨y918, hy918⟩ : ∃ y_ : List (S135), y_ = (y915 ++ l0_4) := ⟨_, rfl⟩
 replace H : (some (a0_0, a0_1, a0_2, y912, y918)) = some (r1, r2, r3, r4, r5) := by first | (rw [hy918]; with_reducible exact H) | (have H2_ := (Option.bind_some _ _).symm.trans H; rw [hy918]; with_reducible exact H2_) | (have H2_ := (Option.bind_some _ _).symm.trans H; with_reducible exact H2_) | with_reducible exact H | (rw [hy918]; exact H) | exact H
 have Ny918 := Aside0.mk hy918
 clear hy918
 simp only [Option.some.injEq, Prod.mk.injEq] at H
 obtain ⟨rfl, rfl, rfl, rfl, rfl⟩ := H
 go_enter Try.func108, Try.ntmps108
 go_wp2_with (first | ((with_reducible refine gate_dst (N := 1) rfl ?_); refine box_event ?hg (N := 1) ?hd (cs := #[.int .i64 a0_0, .int .i64 a0_1, .int .i64 a0_2, .slice A0_3 l0_3.length c0_3, .slice A0_4 l0_4.length c0_4]) (t := 25) ?hr ?_; (case hd => rfl); (case hg => rfl); (case hr => first | (go_simp; done) | (go_simp; rfl)); intro gb907 hg w4 hbox hb; have n0_ := Aside0.mk (below_step (bw HB.out) hb); have n1_ := Aside0.mk (hbox); have n2_ := ge_ hg HB.out; have n3_ := ge_ hg HB.out; replace HB := n0_; have BK907 := n1_; have GW907 := n2_; have GE907 := n3_; clear n0_ n1_ n2_ n3_; clear hb hbox hg) | ((with_reducible refine gate_dst (N := 2) rfl ?_); refine box_event ?hg (N := 2) ?hd (cs := #[.int .i64 0, .int .i64 0, .int .i64 0, .slice none 0 0, .slice none 0 0]) (t := 25) ?hr ?_; (case hd => rfl); (case hg => rfl); (case hr => first | (go_simp; done) | (go_simp; rfl)); intro gb908 hg w5 hbox hb; have n0_ := Aside0.mk (blk_below (bs BK907.out) hb); have n1_ := Aside0.mk (below_step (by repeat (first | (with_reducible first | exact bw HB.out | refine bset ?_ | apply bA | apply bN | apply bD) | exact HB.out)) hb); have n2_ := Aside0.mk (hbox); have n3_ := Aside0.mk ((by rw [hg]; exact (below_size (by repeat (first | (with_reducible first | exact bw HB.out | refine bset ?_ | apply bA | apply bN | apply bD) | exact HB.out))) : w.heap.size ≤ gb908)); have n4_ := Aside0.mk ((by rw [hg]; exact (below_size (by repeat (first | (with_reducible first | exact bw HB.out | refine bset ?_ | apply bA | apply bN | apply bD) | exact HB.out))) : w.heap.size ≤ gb908)); have n5_ := ne_ hg BK907.out; have n6_ := en_ hg BK907.out; replace BK907 := n0_; replace HB := n1_; have BK908 := n2_; have GW908 := n3_; have GE908 := n4_; have NB907_908 := n5_; have NB908_907 := n6_; clear n0_ n1_ n2_ n3_ n4_ n5_ n6_; clear hb hbox hg) | ((with_reducible refine gate_dst (N := 3) rfl ?_); refine Kd.R_lit k137 _ 137 ?hg (N := 3) ?hd (xs := ([] : List (S137))) (inner := []) (ok := fun _ => True) (okp := fun _ => True) ?hr ?hp (fun _ hk => hk) trivial (Below.refl _ _) (Nat.le_refl _) (by simp) ?_; (case hd => rfl); (case hg => rfl); (case hr => first | (go_simp; done) | (go_simp; rfl)); (case hp => exact (Reps.none _ _)); intro v910 w6 ho7 hb hg_ hnew_; clear hg_ hnew_; (first | rw [← Ny909.out] at ho7 | (simp only [Int.reduceToNat] at ho7; rw [← Ny909.out] at ho7)); have n0_ := Aside0.mk (Kd.R_lower ho7 (below_size (by repeat (first | (with_reducible first | exact bw HB.out | refine bset ?_ | apply bA | apply bN | apply bD) | exact HB.out)))); have n1_ := Aside0.mk (blk_below (bs BK907.out) hb); have n2_ := Aside0.mk (blk_below (bs BK908.out) hb); have n3_ := Aside0.mk (below_step (by repeat (first | (with_reducible first | exact bw HB.out | refine bset ?_ | apply bA | apply bN | apply bD) | exact HB.out)) hb); have HO911 := n0_; replace BK907 := n1_; replace BK908 := n2_; replace HB := n3_; clear n0_ n1_ n2_ n3_; clear hb ho7; have hnb8 := NB907_908.out; have hnc8 := NB908_907.out; obtain ⟨hcz9_0, hcz9_1, hcz9_2, hcz9_3, hcz9_4, hfz9_0, hfz9_1, hfz9_2, hfz9_3, hfz9_4⟩ := bz5 BK907.out) | ((with_reducible refine gate_builtin (b := .append) (xs := #[.tmp 3, .tmp 5]) rfl ?_); at_builtin; refine Kd.R_append_rows k137 (w0 := w) w.heap.size rfl (.tmp 3) (.tmp 5) 22 137 (.agg #[(.int .i64 0), (.int .i64 0), (.int .i64 0), (.int .i64 0)]) 32 rfl Try.underlying22 info137 rfl (by decide) (by omega) v910 y909 l0_3 _ _ _ (fun _ => True) (fun _ => False) rfl rfl ?aO ?aR (fun _ _ h => h) (fun _ h => h.elim) ?aF ?aB ?aS ?aL ?_; (case aR => first | exact bC HR0_3.out HB.out | exact Kd.C_below HR0_3.out HB.out); (case aB => exact (by repeat (first | (with_reducible first | exact bw HB.out | refine bset ?_ | apply bA | apply bN | apply bD) | exact HB.out))); (case aF => exact (fun _ _ => trivial)); (case aO => exact (bR HO911.out)); (case aS => exact (below_size (by repeat (first | (with_reducible first | exact bw HB.out | refine bset ?_ | apply bA | apply bN | apply bD) | exact HB.out)))); (case aL => have := LMc2.out; omega); intro v913 w10 ho hb hg hat; rw [← Ny912.out] at ho; have n0_ := Aside0.mk (blk_grown (bs BK907.out) hg (Kd.R_ne HO911.out BK907.out (by decide))); have n1_ := Aside0.mk (blk_grown (bs BK908.out) hg (Kd.R_ne HO911.out BK908.out (by decide))); have n2_ := Aside0.mk (hb); have n3_ := Aside0.mk (ho); clear HO911; replace BK907 := n0_; replace BK908 := n1_; replace HB := n2_; have HO914 := n3_; clear n0_ n1_ n2_ n3_; clear ho hb hg hat; obtain ⟨Ao11, co11, eo11⟩ := Kd.R_slice HO914.out; subst eo11; obtain ⟨hcz12_0, hcz12_1, hcz12_2, hcz12_3, hcz12_4, hfz12_0, hfz12_1, hfz12_2, hfz12_3, hfz12_4⟩ := bz5 BK907.out) | ((with_reducible refine gate_dst (N := 8) rfl ?_); refine Kd.R_lit k135 _ 135 ?hg (N := 8) ?hd (xs := ([] : List (S135))) (inner := []) (ok := fun _ => True) (okp := fun _ => True) ?hr ?hp (fun _ hk => hk) trivial (Below.refl _ _) (Nat.le_refl _) (by simp) ?_; (case hd => rfl); (case hg => rfl); (case hr => first | (go_simp; done) | (go_simp; rfl)); (case hp => exact (Reps.none _ _)); intro v916 w13 ho14 hb hg_ hnew_; clear hg_ hnew_; (first | rw [← Ny915.out] at ho14 | (simp only [Int.reduceToNat] at ho14; rw [← Ny915.out] at ho14)); have n0_ := Aside0.mk (Kd.R_below (by (with_reducible repeat (first | apply Kd.R_alloc | apply Kd.R_drewN | apply Kd.R_drew)); exact (Kd.R_mono (Kd.R_far (p := ⟨gb907, 3, none⟩) (Kd.R_types HO914.out BK907.out (by decide)) (fun _ hk => hk.2) (.slice Ao11 y912.length co11)) (fun _ h_ => h_.1))) hb); have n1_ := Aside0.mk (Kd.R_lower ho14 (below_size (by repeat (first | (with_reducible first | exact bw HB.out | refine bset ?_ | apply bA | apply bN | apply bD) | exact HB.out)))); have n2_ := Aside0.mk (blk_below (g := gb907) (o := .cells #[.int .i64 a0_0, .int .i64 a0_1, .int .i64 a0_2, .slice Ao11 y912.length co11, .slice A0_4 l0_4.length c0_4] 25 (0, 0)) (by (with_reducible repeat (first | refine blk_drewN ?_ _ | refine blk_drew ?_ | refine blk_alloc ?_ _)); refine blk_put (cs := #[.int .i64 a0_0, .int .i64 a0_1, .int .i64 a0_2, .slice A0_3 l0_3.length c0_3, .slice A0_4 l0_4.length c0_4]) ?_ 3 _ rfl; exact bs BK907.out) hb); have n3_ := Aside0.mk (blk_below (g := gb908) (o := .cells #[.int .i64 0, .int .i64 0, .int .i64 0, .slice none 0 0, .slice none 0 0] 25 (0, 0)) (by (with_reducible repeat (first | refine blk_drewN ?_ _ | refine blk_drew ?_ | refine blk_alloc ?_ _)); refine blk_far ?_ NB908_907.out _; exact bs BK908.out) hb); have n4_ := Aside0.mk (below_step (by repeat (first | (with_reducible first | exact bw HB.out | refine bset ?_ | apply bA | apply bN | apply bD) | exact HB.out)) hb); replace HO914 := n0_; have HO917 := n1_; replace BK907 := n2_; replace BK908 := n3_; replace HB := n4_; clear n0_ n1_ n2_ n3_ n4_; clear hb ho14; obtain ⟨hcz15_0, hcz15_1, hcz15_2, hcz15_3, hcz15_4, hfz15_0, hfz15_1, hfz15_2, hfz15_3, hfz15_4⟩ := bz5 BK907.out) | ((with_reducible refine gate_builtin (b := .append) (xs := #[.tmp 8, .tmp 10]) rfl ?_); at_builtin; refine Kd.R_append_rows k135 (w0 := w) w.heap.size rfl (.tmp 8) (.tmp 10) 23 135 (.agg #[(.int .i64 0), (.int .i64 0), (.int .i64 0)]) 24 rfl Try.underlying23 info135 rfl (by decide) (by omega) v916 y915 l0_4 _ _ _ (fun _ => True) (fun _ => False) rfl rfl ?aO ?aR (fun _ _ h => h) (fun _ h => h.elim) ?aF ?aB ?aS ?aL ?_; (case aR => first | exact bC HR0_4.out HB.out | exact Kd.C_below HR0_4.out HB.out); (case aB => exact (by repeat (first | (with_reducible first | exact bw HB.out | refine bset ?_ | apply bA | apply bN | apply bD) | exact HB.out))); (case aF => exact (fun _ _ => trivial)); (case aO => exact (bR HO917.out)); (case aS => exact (below_size (by repeat (first | (with_reducible first | exact bw HB.out | refine bset ?_ | apply bA | apply bN | apply bD) | exact HB.out)))); (case aL => have := LMc3.out; omega); intro v919 w16 ho hb hg hat; rw [← Ny918.out] at ho; have n0_ := Aside0.mk (blk_grown (bs BK907.out) hg (Kd.R_ne HO917.out BK907.out (by decide))); have n1_ := Aside0.mk (blk_grown (bs BK908.out) hg (Kd.R_ne HO917.out BK908.out (by decide))); have n2_ := Aside0.mk (Kd.R_over' (bR HO914.out) (Kd.R_typed (bR HO917.out)) (by decide) hg); have n3_ := Aside0.mk (hb); have n4_ := Aside0.mk (ho); clear HO917; replace BK907 := n0_; replace BK908 := n1_; replace HO914 := n2_; replace HB := n3_; have HO920 := n4_; clear n0_ n1_ n2_ n3_ n4_; clear ho hb hg hat; obtain ⟨Ao17, co17, eo17⟩ := Kd.R_slice HO920.out; subst eo17; obtain ⟨hcz18_0, hcz18_1, hcz18_2, hcz18_3, hcz18_4, hfz18_0, hfz18_1, hfz18_2, hfz18_3, hfz18_4⟩ := bz5 BK907.out; obtain ⟨hcz19_0, hcz19_1, hcz19_2, hcz19_3, hcz19_4, hfz19_0, hfz19_1, hfz19_2, hfz19_3, hfz19_4⟩ := bz5 BK908.out))
 refine bodyPost_ret (results_cell_row rfl _ _ gb908 25 #[.int .i64 a0_0, .int .i64 a0_1, .int .i64 a0_2, .slice Ao11 y912.length co11, .slice Ao17 y918.length co17] (0, 0) _ rfl (by (with_reducible repeat (first | refine blk_drewN ?_ _ | refine blk_drew ?_ | refine blk_alloc ?_ _)); refine blk_put (cs := #[.int .i64 a0_0, .int .i64 a0_1, .int .i64 a0_2, .slice Ao11 y912.length co11, .slice none 0 0]) ?_ 4 _ rfl; (with_reducible repeat (first | refine blk_drewN ?_ _ | refine blk_drew ?_ | refine blk_alloc ?_ _)); refine blk_put (cs := #[.int .i64 a0_0, .int .i64 a0_1, .int .i64 a0_2, .slice none 0 0, .slice none 0 0]) ?_ 3 _ rfl; (with_reducible repeat (first | refine blk_drewN ?_ _ | refine blk_drew ?_ | refine blk_alloc ?_ _)); refine blk_put (cs := #[.int .i64 a0_0, .int .i64 a0_1, .int .i64 0, .slice none 0 0, .slice none 0 0]) ?_ 2 _ rfl; (with_reducible repeat (first | refine blk_drewN ?_ _ | refine blk_drew ?_ | refine blk_alloc ?_ _)); refine blk_put (cs := #[.int .i64 a0_0, .int .i64 0, .int .i64 0, .slice none 0 0, .slice none 0 0]) ?_ 1 _ rfl; (with_reducible repeat (first | refine blk_drewN ?_ _ | refine blk_drew ?_ | refine blk_alloc ?_ _)); refine blk_put (cs := #[.int .i64 0, .int .i64 0, .int .i64 0, .slice none 0 0, .slice none 0 0]) ?_ 0 _ rfl; (with_reducible repeat (first | refine blk_drewN ?_ _ | refine blk_drew ?_ | refine blk_alloc ?_ _)); refine blk_far ?_ NB908_907.out _; exact bs BK908.out) Try.underlying25 rfl (by kernel_rfl)) rfl ?_
 exact ⟨_, _, by first | rfl | (simp [errW_none, errW_some] <;> rfl) | (simp [*, errW_none, errW_some] <;> rfl), by (with_reducible repeat (first | apply Kd.R_alloc | apply Kd.R_drewN | apply Kd.R_drew)); exact Kd.R_mono (Kd.R_far (p := ⟨gb908, 4, none⟩) (Kd.R_far (p := ⟨gb908, 3, none⟩) (Kd.R_far (p := ⟨gb908, 2, none⟩) (Kd.R_far (p := ⟨gb908, 1, none⟩) (Kd.R_far (p := ⟨gb908, 0, none⟩) (Kd.R_far (p := ⟨gb907, 4, none⟩) (Kd.R_types (Kd.R_types HO914.out BK907.out (by decide)) BK908.out (by decide)) (fun _ hk => hk.1.2) (.slice Ao17 y918.length co17)) (fun _ hk => hk.2) (.int .i64 a0_0)) (fun _ hk => hk.2) (.int .i64 a0_1)) (fun _ hk => hk.2) (.int .i64 a0_2)) (fun _ hk => hk.2) (.slice Ao11 y912.length co11)) (fun _ hk => hk.2) (.slice Ao17 y918.length co17)) (fun _ hk => trivial), by (with_reducible repeat (first | apply Kd.R_alloc | apply Kd.R_drewN | apply Kd.R_drew)); exact Kd.R_mono (Kd.R_far (p := ⟨gb908, 4, none⟩) (Kd.R_far (p := ⟨gb908, 3, none⟩) (Kd.R_far (p := ⟨gb908, 2, none⟩) (Kd.R_far (p := ⟨gb908, 1, none⟩) (Kd.R_far (p := ⟨gb908, 0, none⟩) (Kd.R_far (p := ⟨gb907, 4, none⟩) (Kd.R_types (Kd.R_types HO920.out BK907.out (by decide)) BK908.out (by decide)) (fun _ hk => hk.1.2) (.slice Ao17 y918.length co17)) (fun _ hk => hk.2) (.int .i64 a0_0)) (fun _ hk => hk.2) (.int .i64 a0_1)) (fun _ hk => hk.2) (.int .i64 a0_2)) (fun _ hk => hk.2) (.slice Ao11 y912.length co11)) (fun _ hk => hk.2) (.slice Ao17 y918.length co17)) (fun _ hk => trivial), by repeat (first | (with_reducible first | exact bw HB.out | refine bset ?_ | apply bA | apply bN | apply bD) | exact HB.out)⟩

/-! ### impl_NewConsole: function 51 -/
def impl_NewConsole.f (k : Nat) (a0_0 : Int) (a0_1 : Int) (a0_2 : Int) (l0_3 : List (S137)) (l0_4 : List (S135)) : Option (Int × Int × Int × (List (S137)) × (List (S135)) × ByteArray × ByteArray × Int × Bool) := (impl_IsDispatcher.f k a0_0 a0_1 a0_2 l0_3 l0_4).bind fun t923 => (if t923 = true then ((impl_Dispatcher_own.f a0_0 a0_1 a0_2 l0_3 l0_4).bind fun bt924 => (some (bt924.1, bt924.2.1, bt924.2.2.1, bt924.2.2.2.1, bt924.2.2.2.2, (⟨#[]⟩ : ByteArray), (⟨#[]⟩ : ByteArray), 0, true))) else (some (0, 0, 0, ([] : List (S137)), ([] : List (S135)), (⟨#[]⟩ : ByteArray), (⟨#[]⟩ : ByteArray), 0, false)))
theorem impl_NewConsole.mono : ∀ a0 a1 a2 a3 a4 k, LeO (impl_NewConsole.f k a0 a1 a2 a3 a4) (impl_NewConsole.f (k + 1) a0 a1 a2 a3 a4) := by
 intro a0 a1 a2 a3 a4 k
 unfold impl_NewConsole.f
 repeat' first
   | (with_reducible exact impl_IsDispatcher.mono _ _ _ _ _ _)
   | (with_reducible exact LeO.refl _)
   | (with_reducible exact LeO.none _)
   | (with_reducible refine LeO.ite ?_ ?_)
   | (with_reducible refine LeO.bind ?_ (fun _ => ?_))
   | exact impl_IsDispatcher.mono _ _ _ _ _ _
   | exact LeO.none _
   | refine LeO.ite ?_ ?_
   | refine LeO.bind ?_ (fun _ => ?_)
set_option maxHeartbeats 8000000 in
set_option maxRecDepth 100000 in
theorem impl_NewConsole.calls (k : Nat) (a0_0 : Int) (a0_1 : Int) (a0_2 : Int) (A0_3 : Option Addr) (c0_3 : Nat) (l0_3 : List (S137)) (A0_4 : Option Addr) (c0_4 : Nat) (l0_4 : List (S135)) (r1 : Int) (r2 : Int) (r3 : Int) (r4 : List (S137)) (r5 : List (S135)) (r6 : ByteArray) (r7 : ByteArray) (r8 : Int) (r9 : Bool) (w : World) (hr0_3 : Kd.C k137 w A0_3 l0_3.length l0_3) (hc0_3 : l0_3.length ≤ c0_3) (hr0_4 : Kd.C k135 w A0_4 l0_4.length l0_4) (hc0_4 : l0_4.length ≤ c0_4) (h : impl_NewConsole.f k a0_0 a0_1 a0_2 l0_3 l0_4 = some (r1, r2, r3, r4, r5, r6, r7, r8, r9)) :
  Calls Try.prog 51 #[.agg #[.int .i64 a0_0, .int .i64 a0_1, .int .i64 a0_2, .slice A0_3 l0_3.length c0_3, .slice A0_4 l0_4.length c0_4]] w fun e w' => ∃ v3_ v4_ : Value, e = .returned (.tuple #[.agg #[.int .i64 r1, .int .i64 r2, .int .i64 r3, v3_, v4_, .string r6, .string r7, .int .i64 r8], .bool r9]) ∧ Kd.R k137 137 w' w.heap.size (fun _ => True) v3_ r4 ∧ Kd.R k135 135 w' w.heap.size (fun _ => True) v4_ r5 ∧ Below w.heap.size w w' := by
 have hu25 := Try.underlying25
 have hu72 := Try.underlying72
 have HR0_3 := Aside0.mk hr0_3
 have HC0_3 := Aside0.mk hc0_3
 clear hr0_3 hc0_3
 have HR0_4 := Aside0.mk hr0_4
 have HC0_4 := Aside0.mk hc0_4
 clear hr0_4 hc0_4
 have HB := Aside0.mk (Below.refl w.heap.size w)
 have H : ((impl_IsDispatcher.f k a0_0 a0_1 a0_2 l0_3 l0_4).bind fun t923 => (if t923 = true then ((impl_Dispatcher_own.f a0_0 a0_1 a0_2 l0_3 l0_4).bind fun bt924 => (some (bt924.1, bt924.2.1, bt924.2.2.1, bt924.2.2.2.1, bt924.2.2.2.2, (⟨#[]⟩ : ByteArray), (⟨#[]⟩ : ByteArray), 0, true))) else (some (0, 0, 0, ([] : List (S137)), ([] : List (S135)), (⟨#[]⟩ : ByteArray), (⟨#[]⟩ : ByteArray), 0, false)))) = some (r1, r2, r3, r4, r5, r6, r7, r8, r9) := h
 clear h
 replace H := Option.bind_eq_some_iff.mp H
 obtain ⟨t923, A20, H⟩ := H
 replace H : (if t923 = true then ((impl_Dispatcher_own.f a0_0 a0_1 a0_2 l0_3 l0_4).bind fun bt924 => (some (bt924.1, bt924.2.1, bt924.2.2.1, bt924.2.2.2.1, bt924.2.2.2.2, (⟨#[]⟩ : ByteArray), (⟨#[]⟩ : ByteArray), 0, true))) else (some (0, 0, 0, ([] : List (S137)), ([] : List (S135)), (⟨#[]⟩ : ByteArray), (⟨#[]⟩ : ByteArray), 0, false))) = some (r1, r2, r3, r4, r5, r6, r7, r8, r9) := H
 have A2 := Aside0.mk A20
 clear A20
 by_cases c3 : t923 = true
 rotate_left
 ·replace c3 := Bool.eq_false_iff.mpr c3
  subst c3
  have H1 : (some (0, 0, 0, ([] : List (S137)), ([] : List (S135)), (⟨#[]⟩ : ByteArray), (⟨#[]⟩ : ByteArray), 0, false)) = some (r1, r2, r3, r4, r5, r6, r7, r8, r9) := by rw [if_neg (show ¬ (false = true) by decide)] at H; exact H
  clear H
  have H := H1
  clear H1
  simp only [Option.some.injEq, Prod.mk.injEq] at H
  obtain ⟨rfl, rfl, rfl, rfl, rfl, rfl, rfl, rfl, rfl⟩ := H
  go_enter Try.func51, Try.ntmps51
  go_wp2_with (first | ((with_reducible refine gate_dst (N := 1) rfl ?_); refine box_event ?hg (N := 1) ?hd (cs := #[.int .i64 a0_0, .int .i64 a0_1, .int .i64 a0_2, .slice A0_3 l0_3.length c0_3, .slice A0_4 l0_4.length c0_4]) (t := 25) ?hr ?_; (case hd => rfl); (case hg => rfl); (case hr => first | (go_simp; done) | (go_simp; rfl)); intro gb921 hg w15 hbox hb; have n0_ := Aside0.mk (below_step (bw HB.out) hb); have n1_ := Aside0.mk (hbox); have n2_ := ge_ hg HB.out; have n3_ := ge_ hg HB.out; replace HB := n0_; have BK921 := n1_; have GW921 := n2_; have GE921 := n3_; clear n0_ n1_ n2_ n3_; clear hb hbox hg) | ((with_reducible refine gate_dst (N := 2) rfl ?_); refine box_event ?hg (N := 2) ?hd (cs := #[.int .i64 0, .int .i64 0, .int .i64 0, .slice none 0 0, .slice none 0 0, .string (⟨#[]⟩ : ByteArray), .string (⟨#[]⟩ : ByteArray), .int .i64 0]) (t := 72) ?hr ?_; (case hd => rfl); (case hg => rfl); (case hr => first | (go_simp; done) | (go_simp; rfl)); intro gb922 hg w16 hbox hb; have n0_ := Aside0.mk (blk_below (bs BK921.out) hb); have n1_ := Aside0.mk (below_step (by repeat (first | (with_reducible first | exact bw HB.out | refine bset ?_ | apply bA | apply bN | apply bD) | exact HB.out)) hb); have n2_ := Aside0.mk (hbox); have n3_ := Aside0.mk ((by rw [hg]; exact (below_size (by repeat (first | (with_reducible first | exact bw HB.out | refine bset ?_ | apply bA | apply bN | apply bD) | exact HB.out))) : w.heap.size ≤ gb922)); have n4_ := Aside0.mk ((by rw [hg]; exact (below_size (by repeat (first | (with_reducible first | exact bw HB.out | refine bset ?_ | apply bA | apply bN | apply bD) | exact HB.out))) : w.heap.size ≤ gb922)); have n5_ := ne_ hg BK921.out; have n6_ := en_ hg BK921.out; replace BK921 := n0_; replace HB := n1_; have BK922 := n2_; have GW922 := n3_; have GE922 := n4_; have NB921_922 := n5_; have NB922_921 := n6_; clear n0_ n1_ n2_ n3_ n4_ n5_ n6_; clear hb hbox hg; have hnb17 := NB921_922.out; have hnc17 := NB922_921.out; obtain ⟨hcz18_0, hcz18_1, hcz18_2, hcz18_3, hcz18_4, hfz18_0, hfz18_1, hfz18_2, hfz18_3, hfz18_4⟩ := bz5 BK921.out) | ((with_reducible refine gate_callee (f := 77) rfl ?_); refine goesL_ (some 5) rfl rfl Try.func77 (by kernel_rfl) rfl #[.agg #[.int .i64 a0_0, .int .i64 a0_1, .int .i64 a0_2, .slice A0_3 l0_3.length c0_3, .slice A0_4 l0_4.length c0_4]] rfl (by (try simp only [mA_]); first | done | rfl | (simp only [List.length_drop, List.length_take]; rfl)) ?_; (with_reducible refine (impl_IsDispatcher.calls k a0_0 a0_1 a0_2 _ _ l0_3 _ _ l0_4 false _ ?side1 ?side2 ?side3 ?side4 A2.out).mono ?_); (case side1 => first | exact bC HR0_3.out HB.out | exact Kd.C_below HR0_3.out HB.out); (case side2 => exact HC0_3.out); (case side3 => first | exact bC HR0_4.out HB.out | exact Kd.C_below HR0_4.out HB.out); (case side4 => exact HC0_4.out); rintro e w19 ⟨rfl, hb⟩; refine ⟨_, rfl, ?_⟩; have n0_ := Aside0.mk (blk_below (bs BK921.out) hb); have n1_ := Aside0.mk (blk_below (bs BK922.out) hb); have n2_ := Aside0.mk (below_step (by repeat (first | (with_reducible first | exact bw HB.out | refine bset ?_ | apply bA | apply bN | apply bD) | exact HB.out)) hb); replace BK921 := n0_; replace BK922 := n1_; replace HB := n2_; clear n0_ n1_ n2_; (try clear hb); (try clear hb2); (try clear hk); (try clear hi); obtain ⟨hcz20_0, hcz20_1, hcz20_2, hcz20_3, hcz20_4, hcz20_5, hcz20_6, hcz20_7, hfz20_0, hfz20_1, hfz20_2, hfz20_3, hfz20_4, hfz20_5, hfz20_6, hfz20_7⟩ := bz8 BK922.out))
  refine bodyPost_ret (results_ct rfl _ _ gb922 72 #[.int .i64 0, .int .i64 0, .int .i64 0, .slice none 0 0, .slice none 0 0, .string (⟨#[]⟩ : ByteArray), .string (⟨#[]⟩ : ByteArray), .int .i64 0] (0, 0) _ rfl (by (with_reducible repeat (first | refine blk_drewN ?_ _ | refine blk_drew ?_ | refine blk_alloc ?_ _)); refine blk_put (cs := #[.int .i64 0, .int .i64 0, .int .i64 0, .slice none 0 0, .slice none 0 0, .string (⟨#[]⟩ : ByteArray), .string (⟨#[]⟩ : ByteArray), .int .i64 0]) ?_ 7 _ rfl; (with_reducible repeat (first | refine blk_drewN ?_ _ | refine blk_drew ?_ | refine blk_alloc ?_ _)); refine blk_put (cs := #[.int .i64 0, .int .i64 0, .int .i64 0, .slice none 0 0, .slice none 0 0, .string (⟨#[]⟩ : ByteArray), .string (⟨#[]⟩ : ByteArray), .int .i64 0]) ?_ 6 _ rfl; (with_reducible repeat (first | refine blk_drewN ?_ _ | refine blk_drew ?_ | refine blk_alloc ?_ _)); refine blk_put (cs := #[.int .i64 0, .int .i64 0, .int .i64 0, .slice none 0 0, .slice none 0 0, .string (⟨#[]⟩ : ByteArray), .string (⟨#[]⟩ : ByteArray), .int .i64 0]) ?_ 5 _ rfl; (with_reducible repeat (first | refine blk_drewN ?_ _ | refine blk_drew ?_ | refine blk_alloc ?_ _)); refine blk_put (cs := #[.int .i64 0, .int .i64 0, .int .i64 0, .slice none 0 0, .slice none 0 0, .string (⟨#[]⟩ : ByteArray), .string (⟨#[]⟩ : ByteArray), .int .i64 0]) ?_ 4 _ rfl; (with_reducible repeat (first | refine blk_drewN ?_ _ | refine blk_drew ?_ | refine blk_alloc ?_ _)); refine blk_put (cs := #[.int .i64 0, .int .i64 0, .int .i64 0, .slice none 0 0, .slice none 0 0, .string (⟨#[]⟩ : ByteArray), .string (⟨#[]⟩ : ByteArray), .int .i64 0]) ?_ 3 _ rfl; (with_reducible repeat (first | refine blk_drewN ?_ _ | refine blk_drew ?_ | refine blk_alloc ?_ _)); refine blk_put (cs := #[.int .i64 0, .int .i64 0, .int .i64 0, .slice none 0 0, .slice none 0 0, .string (⟨#[]⟩ : ByteArray), .string (⟨#[]⟩ : ByteArray), .int .i64 0]) ?_ 2 _ rfl; (with_reducible repeat (first | refine blk_drewN ?_ _ | refine blk_drew ?_ | refine blk_alloc ?_ _)); refine blk_put (cs := #[.int .i64 0, .int .i64 0, .int .i64 0, .slice none 0 0, .slice none 0 0, .string (⟨#[]⟩ : ByteArray), .string (⟨#[]⟩ : ByteArray), .int .i64 0]) ?_ 1 _ rfl; (with_reducible repeat (first | refine blk_drewN ?_ _ | refine blk_drew ?_ | refine blk_alloc ?_ _)); refine blk_put (cs := #[.int .i64 0, .int .i64 0, .int .i64 0, .slice none 0 0, .slice none 0 0, .string (⟨#[]⟩ : ByteArray), .string (⟨#[]⟩ : ByteArray), .int .i64 0]) ?_ 0 _ rfl; exact bs BK922.out) Try.underlying72 rfl (by kernel_rfl)) rfl ?_
  exact ⟨_, _, by first | rfl | (simp [errW_none, errW_some] <;> rfl) | (simp [*, errW_none, errW_some] <;> rfl), by first | exact Kd.R_nil _ _ _ _ _ | exact Kd.N_nil _ _ _ _ _ | exact Kd.V_nil _ _ _ _ _ | exact Kd.Q_nil _ _ _ _ _ | exact Kd.S_nil _ _ _ _ _, by first | exact Kd.R_nil _ _ _ _ _ | exact Kd.N_nil _ _ _ _ _ | exact Kd.V_nil _ _ _ _ _ | exact Kd.Q_nil _ _ _ _ _ | exact Kd.S_nil _ _ _ _ _, by repeat (first | (with_reducible first | exact bw HB.out | refine bset ?_ | apply bA | apply bN | apply bD) | exact HB.out)⟩
 subst c3
 have H1 : ((impl_Dispatcher_own.f a0_0 a0_1 a0_2 l0_3 l0_4).bind fun bt924 => (some (bt924.1, bt924.2.1, bt924.2.2.1, bt924.2.2.2.1, bt924.2.2.2.2, (⟨#[]⟩ : ByteArray), (⟨#[]⟩ : ByteArray), 0, true))) = some (r1, r2, r3, r4, r5, r6, r7, r8, r9) := by rw [if_pos rfl] at H; exact H
 clear H
 have H := H1
 clear H1
 replace H := Option.bind_eq_some_iff.mp H
 obtain ⟨⟨t924, t925, t926, t927, t930⟩, A40, H⟩ := H
 replace H : (some (t924, t925, t926, t927, t930, (⟨#[]⟩ : ByteArray), (⟨#[]⟩ : ByteArray), 0, true)) = some (r1, r2, r3, r4, r5, r6, r7, r8, r9) := H
 have A4 := Aside0.mk A40
 clear A40
 simp only [Option.some.injEq, Prod.mk.injEq] at H
 obtain ⟨rfl, rfl, rfl, rfl, rfl, rfl, rfl, rfl, rfl⟩ := H
 go_enter Try.func51, Try.ntmps51
 go_wp2_with (first | ((with_reducible refine gate_dst (N := 1) rfl ?_); refine box_event ?hg (N := 1) ?hd (cs := #[.int .i64 a0_0, .int .i64 a0_1, .int .i64 a0_2, .slice A0_3 l0_3.length c0_3, .slice A0_4 l0_4.length c0_4]) (t := 25) ?hr ?_; (case hd => rfl); (case hg => rfl); (case hr => first | (go_simp; done) | (go_simp; rfl)); intro gb921 hg w5 hbox hb; have n0_ := Aside0.mk (below_step (bw HB.out) hb); have n1_ := Aside0.mk (hbox); have n2_ := ge_ hg HB.out; have n3_ := ge_ hg HB.out; replace HB := n0_; have BK921 := n1_; have GW921 := n2_; have GE921 := n3_; clear n0_ n1_ n2_ n3_; clear hb hbox hg) | ((with_reducible refine gate_dst (N := 2) rfl ?_); refine box_event ?hg (N := 2) ?hd (cs := #[.int .i64 0, .int .i64 0, .int .i64 0, .slice none 0 0, .slice none 0 0, .string (⟨#[]⟩ : ByteArray), .string (⟨#[]⟩ : ByteArray), .int .i64 0]) (t := 72) ?hr ?_; (case hd => rfl); (case hg => rfl); (case hr => first | (go_simp; done) | (go_simp; rfl)); intro gb922 hg w6 hbox hb; have n0_ := Aside0.mk (blk_below (bs BK921.out) hb); have n1_ := Aside0.mk (below_step (by repeat (first | (with_reducible first | exact bw HB.out | refine bset ?_ | apply bA | apply bN | apply bD) | exact HB.out)) hb); have n2_ := Aside0.mk (hbox); have n3_ := Aside0.mk ((by rw [hg]; exact (below_size (by repeat (first | (with_reducible first | exact bw HB.out | refine bset ?_ | apply bA | apply bN | apply bD) | exact HB.out))) : w.heap.size ≤ gb922)); have n4_ := Aside0.mk ((by rw [hg]; exact (below_size (by repeat (first | (with_reducible first | exact bw HB.out | refine bset ?_ | apply bA | apply bN | apply bD) | exact HB.out))) : w.heap.size ≤ gb922)); have n5_ := ne_ hg BK921.out; have n6_ := en_ hg BK921.out; replace BK921 := n0_; replace HB := n1_; have BK922 := n2_; have GW922 := n3_; have GE922 := n4_; have NB921_922 := n5_; have NB922_921 := n6_; clear n0_ n1_ n2_ n3_ n4_ n5_ n6_; clear hb hbox hg; have hnb7 := NB921_922.out; have hnc7 := NB922_921.out; obtain ⟨hcz8_0, hcz8_1, hcz8_2, hcz8_3, hcz8_4, hfz8_0, hfz8_1, hfz8_2, hfz8_3, hfz8_4⟩ := bz5 BK921.out) | ((with_reducible refine gate_callee (f := 77) rfl ?_); refine goesL_ (some 5) rfl rfl Try.func77 (by kernel_rfl) rfl #[.agg #[.int .i64 a0_0, .int .i64 a0_1, .int .i64 a0_2, .slice A0_3 l0_3.length c0_3, .slice A0_4 l0_4.length c0_4]] rfl (by (try simp only [mA_]); first | done | rfl | (simp only [List.length_drop, List.length_take]; rfl)) ?_; (with_reducible refine (impl_IsDispatcher.calls k a0_0 a0_1 a0_2 _ _ l0_3 _ _ l0_4 true _ ?side1 ?side2 ?side3 ?side4 A2.out).mono ?_); (case side1 => first | exact bC HR0_3.out HB.out | exact Kd.C_below HR0_3.out HB.out); (case side2 => exact HC0_3.out); (case side3 => first | exact bC HR0_4.out HB.out | exact Kd.C_below HR0_4.out HB.out); (case side4 => exact HC0_4.out); rintro e w9 ⟨rfl, hb⟩; refine ⟨_, rfl, ?_⟩; have n0_ := Aside0.mk (blk_below (bs BK921.out) hb); have n1_ := Aside0.mk (blk_below (bs BK922.out) hb); have n2_ := Aside0.mk (below_step (by repeat (first | (with_reducible first | exact bw HB.out | refine bset ?_ | apply bA | apply bN | apply bD) | exact HB.out)) hb); replace BK921 := n0_; replace BK922 := n1_; replace HB := n2_; clear n0_ n1_ n2_; (try clear hb); (try clear hb2); (try clear hk); (try clear hi); obtain ⟨hcz10_0, hcz10_1, hcz10_2, hcz10_3, hcz10_4, hfz10_0, hfz10_1, hfz10_2, hfz10_3, hfz10_4⟩ := bz5 BK921.out) | ((with_reducible refine gate_callee (f := 108) rfl ?_); refine goesL_ (some 9) rfl rfl Try.func108 (by kernel_rfl) rfl #[.agg #[.int .i64 a0_0, .int .i64 a0_1, .int .i64 a0_2, .slice A0_3 l0_3.length c0_3, .slice A0_4 l0_4.length c0_4]] rfl (by (try simp only [mA_]); first | done | rfl | (simp only [List.length_drop, List.length_take]; rfl)) ?_; (with_reducible refine (impl_Dispatcher_own.calls a0_0 a0_1 a0_2 _ _ l0_3 _ _ l0_4 t924 t925 t926 t927 t930 _ ?side1 ?side2 ?side3 ?side4 A4.out).mono ?_); (case side1 => first | exact bC HR0_3.out HB.out | exact Kd.C_below HR0_3.out HB.out); (case side2 => exact HC0_3.out); (case side3 => first | exact bC HR0_4.out HB.out | exact Kd.C_below HR0_4.out HB.out); (case side4 => exact HC0_4.out); rintro e w11 ⟨v928, v931, rfl, ho0, ho1, hb⟩; refine ⟨_, rfl, ?_⟩; have n0_ := Aside0.mk (Kd.R_lower ho0 (below_size (by repeat (first | (with_reducible first | exact bw HB.out | refine bset ?_ | apply bA | apply bN | apply bD) | exact HB.out)))); have n1_ := Aside0.mk (Kd.R_lower ho1 (below_size (by repeat (first | (with_reducible first | exact bw HB.out | refine bset ?_ | apply bA | apply bN | apply bD) | exact HB.out)))); have n2_ := Aside0.mk (blk_below (bs BK921.out) hb); have n3_ := Aside0.mk (blk_below (bs BK922.out) hb); have n4_ := Aside0.mk (below_step (by repeat (first | (with_reducible first | exact bw HB.out | refine bset ?_ | apply bA | apply bN | apply bD) | exact HB.out)) hb); have HO929 := n0_; have HO932 := n1_; replace BK921 := n2_; replace BK922 := n3_; replace HB := n4_; clear n0_ n1_ n2_ n3_ n4_; (try clear hb); (try clear hb2); (try clear hk); (try clear hi); (try clear ho0); (try clear ho1); obtain ⟨Ao12, co12, eo12⟩ := Kd.R_slice HO932.out; subst eo12; obtain ⟨Ao13, co13, eo13⟩ := Kd.R_slice HO929.out; subst eo13; obtain ⟨hcz14_0, hcz14_1, hcz14_2, hcz14_3, hcz14_4, hcz14_5, hcz14_6, hcz14_7, hfz14_0, hfz14_1, hfz14_2, hfz14_3, hfz14_4, hfz14_5, hfz14_6, hfz14_7⟩ := bz8 BK922.out))
 refine bodyPost_ret (results_ct rfl _ _ gb922 72 #[.int .i64 t924, .int .i64 t925, .int .i64 t926, .slice Ao13 t927.length co13, .slice Ao12 t930.length co12, .string (⟨#[]⟩ : ByteArray), .string (⟨#[]⟩ : ByteArray), .int .i64 0] (0, 0) _ rfl (by (with_reducible repeat (first | refine blk_drewN ?_ _ | refine blk_drew ?_ | refine blk_alloc ?_ _)); refine blk_put (cs := #[.int .i64 t924, .int .i64 t925, .int .i64 t926, .slice Ao13 t927.length co13, .slice Ao12 t930.length co12, .string (⟨#[]⟩ : ByteArray), .string (⟨#[]⟩ : ByteArray), .int .i64 0]) ?_ 7 _ rfl; (with_reducible repeat (first | refine blk_drewN ?_ _ | refine blk_drew ?_ | refine blk_alloc ?_ _)); refine blk_put (cs := #[.int .i64 t924, .int .i64 t925, .int .i64 t926, .slice Ao13 t927.length co13, .slice Ao12 t930.length co12, .string (⟨#[]⟩ : ByteArray), .string (⟨#[]⟩ : ByteArray), .int .i64 0]) ?_ 6 _ rfl; (with_reducible repeat (first | refine blk_drewN ?_ _ | refine blk_drew ?_ | refine blk_alloc ?_ _)); refine blk_put (cs := #[.int .i64 t924, .int .i64 t925, .int .i64 t926, .slice Ao13 t927.length co13, .slice Ao12 t930.length co12, .string (⟨#[]⟩ : ByteArray), .string (⟨#[]⟩ : ByteArray), .int .i64 0]) ?_ 5 _ rfl; (with_reducible repeat (first | refine blk_drewN ?_ _ | refine blk_drew ?_ | refine blk_alloc ?_ _)); refine blk_put (cs := #[.int .i64 t924, .int .i64 t925, .int .i64 t926, .slice Ao13 t927.length co13, .slice none 0 0, .string (⟨#[]⟩ : ByteArray), .string (⟨#[]⟩ : ByteArray), .int .i64 0]) ?_ 4 _ rfl; (with_reducible repeat (first | refine blk_drewN ?_ _ | refine blk_drew ?_ | refine blk_alloc ?_ _)); refine blk_put (cs := #[.int .i64 t924, .int .i64 t925, .int .i64 t926, .slice none 0 0, .slice none 0 0, .string (⟨#[]⟩ : ByteArray), .string (⟨#[]⟩ : ByteArray), .int .i64 0]) ?_ 3 _ rfl; (with_reducible repeat (first | refine blk_drewN ?_ _ | refine blk_drew ?_ | refine blk_alloc ?_ _)); refine blk_put (cs := #[.int .i64 t924, .int .i64 t925, .int .i64 0, .slice none 0 0, .slice none 0 0, .string (⟨#[]⟩ : ByteArray), .string (⟨#[]⟩ : ByteArray), .int .i64 0]) ?_ 2 _ rfl; (with_reducible repeat (first | refine blk_drewN ?_ _ | refine blk_drew ?_ | refine blk_alloc ?_ _)); refine blk_put (cs := #[.int .i64 t924, .int .i64 0, .int .i64 0, .slice none 0 0, .slice none 0 0, .string (⟨#[]⟩ : ByteArray), .string (⟨#[]⟩ : ByteArray), .int .i64 0]) ?_ 1 _ rfl; (with_reducible repeat (first | refine blk_drewN ?_ _ | refine blk_drew ?_ | refine blk_alloc ?_ _)); refine blk_put (cs := #[.int .i64 0, .int .i64 0, .int .i64 0, .slice none 0 0, .slice none 0 0, .string (⟨#[]⟩ : ByteArray), .string (⟨#[]⟩ : ByteArray), .int .i64 0]) ?_ 0 _ rfl; exact bs BK922.out) Try.underlying72 rfl (by kernel_rfl)) rfl ?_
 exact ⟨_, _, by first | rfl | (simp [errW_none, errW_some] <;> rfl) | (simp [*, errW_none, errW_some] <;> rfl), by (with_reducible repeat (first | apply Kd.R_alloc | apply Kd.R_drewN | apply Kd.R_drew)); exact Kd.R_mono (Kd.R_far (p := ⟨gb922, 7, none⟩) (Kd.R_far (p := ⟨gb922, 6, none⟩) (Kd.R_far (p := ⟨gb922, 5, none⟩) (Kd.R_far (p := ⟨gb922, 4, none⟩) (Kd.R_far (p := ⟨gb922, 3, none⟩) (Kd.R_far (p := ⟨gb922, 2, none⟩) (Kd.R_far (p := ⟨gb922, 1, none⟩) (Kd.R_far (p := ⟨gb922, 0, none⟩) (Kd.R_types HO929.out BK922.out (by decide)) (fun _ hk => hk.2) (.int .i64 t924)) (fun _ hk => hk.2) (.int .i64 t925)) (fun _ hk => hk.2) (.int .i64 t926)) (fun _ hk => hk.2) (.slice Ao13 t927.length co13)) (fun _ hk => hk.2) (.slice Ao12 t930.length co12)) (fun _ hk => hk.2) (.string (⟨#[]⟩ : ByteArray))) (fun _ hk => hk.2) (.string (⟨#[]⟩ : ByteArray))) (fun _ hk => hk.2) (.int .i64 0)) (fun _ hk => trivial), by (with_reducible repeat (first | apply Kd.R_alloc | apply Kd.R_drewN | apply Kd.R_drew)); exact Kd.R_mono (Kd.R_far (p := ⟨gb922, 7, none⟩) (Kd.R_far (p := ⟨gb922, 6, none⟩) (Kd.R_far (p := ⟨gb922, 5, none⟩) (Kd.R_far (p := ⟨gb922, 4, none⟩) (Kd.R_far (p := ⟨gb922, 3, none⟩) (Kd.R_far (p := ⟨gb922, 2, none⟩) (Kd.R_far (p := ⟨gb922, 1, none⟩) (Kd.R_far (p := ⟨gb922, 0, none⟩) (Kd.R_types HO932.out BK922.out (by decide)) (fun _ hk => hk.2) (.int .i64 t924)) (fun _ hk => hk.2) (.int .i64 t925)) (fun _ hk => hk.2) (.int .i64 t926)) (fun _ hk => hk.2) (.slice Ao13 t927.length co13)) (fun _ hk => hk.2) (.slice Ao12 t930.length co12)) (fun _ hk => hk.2) (.string (⟨#[]⟩ : ByteArray))) (fun _ hk => hk.2) (.string (⟨#[]⟩ : ByteArray))) (fun _ hk => hk.2) (.int .i64 0)) (fun _ hk => trivial), by repeat (first | (with_reducible first | exact bw HB.out | refine bset ?_ | apply bA | apply bN | apply bD) | exact HB.out)⟩

/-! ### laws_markConsole: function 53 -/
def laws_markConsole.f (k : Nat) (a0_0 : Int) (a0_1 : Int) (a0_2 : Int) (l0_3 : List (S137)) (l0_4 : List (S135)) (a0_5 : ByteArray) (a0_6 : ByteArray) (a0_7 : Int) (a1 : Int) : Option (Int × (List (S137)) × (List (S135))) := (laws_markDispatcher.f k a0_0 a0_1 a0_2 l0_3 l0_4 a1).bind fun bt938 => (some (bt938.1, bt938.2.1, bt938.2.2))
theorem laws_markConsole.mono : ∀ a0 a1 a2 a3 a4 a5 a6 a7 a8 k, LeO (laws_markConsole.f k a0 a1 a2 a3 a4 a5 a6 a7 a8) (laws_markConsole.f (k + 1) a0 a1 a2 a3 a4 a5 a6 a7 a8) := by
 intro a0 a1 a2 a3 a4 a5 a6 a7 a8 k
 unfold laws_markConsole.f
 repeat' first
   | (with_reducible exact laws_markDispatcher.mono _ _ _ _ _ _ _)
   | (with_reducible exact LeO.refl _)
   | (with_reducible exact LeO.none _)
   | (with_reducible refine LeO.ite ?_ ?_)
   | (with_reducible refine LeO.bind ?_ (fun _ => ?_))
   | exact laws_markDispatcher.mono _ _ _ _ _ _ _
   | exact LeO.none _
   | refine LeO.ite ?_ ?_
   | refine LeO.bind ?_ (fun _ => ?_)
set_option maxHeartbeats 8000000 in
set_option maxRecDepth 100000 in
theorem laws_markConsole.calls (k : Nat) (a0_0 : Int) (a0_1 : Int) (a0_2 : Int) (P0_3_ : Nat → Prop) (u9000_ : Value) (l0_3 : List (S137)) (P0_4_ : Nat → Prop) (u9001_ : Value) (l0_4 : List (S135)) (a0_5 : ByteArray) (a0_6 : ByteArray) (a0_7 : Int) (a1 : Int) (r1 : Int) (r2 : List (S137)) (r3 : List (S135)) (w0 w : World) (hB : Below w0.heap.size w0 w) (ho0_3 : Kd.R k137 137 w w0.heap.size P0_3_ u9000_ l0_3) (ho0_4 : Kd.R k135 135 w w0.heap.size P0_4_ u9001_ l0_4) (h : laws_markConsole.f k a0_0 a0_1 a0_2 l0_3 l0_4 a0_5 a0_6 a0_7 a1 = some (r1, r2, r3)) :
  Calls Try.prog 53 #[.agg #[.int .i64 a0_0, .int .i64 a0_1, .int .i64 a0_2, u9000_, u9001_, .string a0_5, .string a0_6, .int .i64 a0_7], .int .i64 a1] w fun e w' => e = .returned (.int .i64 r1) ∧ Kd.R k137 137 w' w0.heap.size (fun k_ => ((P0_3_ k_ ∨ P0_4_ k_) ∨ w.heap.size ≤ k_)) u9000_ r2 ∧ Kd.R k135 135 w' w0.heap.size (fun k_ => ((P0_3_ k_ ∨ P0_4_ k_) ∨ w.heap.size ≤ k_)) u9001_ r3 ∧ Below w0.heap.size w0 w' ∧ Kept w w' (fun k_ => P0_3_ k_ ∨ P0_4_ k_) := by
 have hu72 := Try.underlying72
 have hu25 := Try.underlying25
 have HO0_3 := Aside0.mk (show Kd.R k137 137 w w0.heap.size (fun k_ => ((P0_3_ k_ ∨ P0_4_ k_) ∨ w.heap.size ≤ k_)) u9000_ l0_3 from Kd.R_mono ho0_3 (fun k_ hk => (.inl (.inl hk))))
 have HO0_4 := Aside0.mk (show Kd.R k135 135 w w0.heap.size (fun k_ => ((P0_3_ k_ ∨ P0_4_ k_) ∨ w.heap.size ≤ k_)) u9001_ l0_4 from Kd.R_mono ho0_4 (fun k_ hk => (.inl (.inr hk))))
 have HK := Aside0.mk (Kept.refl w (fun k_ => P0_3_ k_ ∨ P0_4_ k_))
 have HW0 := Aside0.mk hB.size
 have HB := Aside0.mk hB
 clear hB
 have H : ((laws_markDispatcher.f k a0_0 a0_1 a0_2 l0_3 l0_4 a1).bind fun bt938 => (some (bt938.1, bt938.2.1, bt938.2.2))) = some (r1, r2, r3) := h
 clear h
 replace H := Option.bind_eq_some_iff.mp H
 obtain ⟨⟨t938, t939, t940⟩, A30, H⟩ := H
 replace H : (some (t938, t939, t940)) = some (r1, r2, r3) := H
 have A3 := Aside0.mk A30
 clear A30
 simp only [Option.some.injEq, Prod.mk.injEq] at H
 obtain ⟨rfl, rfl, rfl⟩ := H
 obtain ⟨Ao4, co4, eo4⟩ := Kd.R_slice HO0_3.out
 subst eo4
 obtain ⟨Ao5, co5, eo5⟩ := Kd.R_slice HO0_4.out
 subst eo5
 go_enter Try.func53, Try.ntmps53
 go_wp2_with (first | ((with_reducible refine gate_dst (N := 2) rfl ?_); refine box_event ?hg (N := 2) ?hd (cs := #[.int .i64 a0_0, .int .i64 a0_1, .int .i64 a0_2, .slice Ao4 l0_3.length co4, .slice Ao5 l0_4.length co5, .string a0_5, .string a0_6, .int .i64 a0_7]) (t := 72) ?hr ?_; (case hd => rfl); (case hg => rfl); (case hr => first | (go_simp; done) | (go_simp; rfl)); intro gb937 hg w6 hbox hb; have n0_ := Aside0.mk (Kd.R_below (bR HO0_3.out) hb); have n1_ := Aside0.mk (Kd.R_below (bR HO0_4.out) hb); have n2_ := Aside0.mk (Kept.below (S := (fun k_ => P0_3_ k_ ∨ P0_4_ k_)) (by repeat (first | (with_reducible first | exact HK.out | apply Kept.alloc | apply Kept.drewN | apply Kept.drew) | exact HK.out)) hb); have n3_ := Aside0.mk (below_step (bw HB.out) hb); have n4_ := Aside0.mk (hbox); have n5_ := Aside0.mk ((by rw [hg]; exact (by first | exact HK.out.1 | exact (show Kept w _ (fun k_ => P0_3_ k_ ∨ P0_4_ k_) from by repeat (first | (with_reducible first | exact HK.out | apply Kept.alloc | apply Kept.drewN | apply Kept.drew) | exact HK.out)).1) : w.heap.size ≤ gb937)); have n6_ := ge_ hg HB.out; replace HO0_3 := n0_; replace HO0_4 := n1_; replace HK := n2_; replace HB := n3_; have BK937 := n4_; have GW937 := n5_; have GE937 := n6_; clear n0_ n1_ n2_ n3_ n4_ n5_ n6_; clear hb hbox hg; obtain ⟨hcz7_0, hcz7_1, hcz7_2, hcz7_3, hcz7_4, hcz7_5, hcz7_6, hcz7_7, hfz7_0, hfz7_1, hfz7_2, hfz7_3, hfz7_4, hfz7_5, hfz7_6, hfz7_7⟩ := bz8 BK937.out) | ((with_reducible refine gate_callee (f := 19) rfl ?_); refine goesL_ (some 8) rfl rfl Try.func19 (by kernel_rfl) rfl #[.agg #[.int .i64 a0_0, .int .i64 a0_1, .int .i64 a0_2, .slice Ao4 l0_3.length co4, .slice Ao5 l0_4.length co5], .int .i64 a1] rfl (by (try simp only [mA_]); first | done | rfl | (simp only [List.length_drop, List.length_take]; rfl)) ?_; (with_reducible refine (laws_markDispatcher.calls k a0_0 a0_1 a0_2 (fun k_ => some k_ = (.slice Ao4 l0_3.length co4 : Value).ownBlock) (.slice Ao4 l0_3.length co4) l0_3 (fun k_ => some k_ = (.slice Ao5 l0_4.length co5 : Value).ownBlock) (.slice Ao5 l0_4.length co5) l0_4 a1 t938 t939 t940 w0 _ ?side1 ?side2 ?side3 A3.out).mono ?_); (case side1 => repeat (first | (with_reducible first | exact HB.out | apply below_alloc | apply pw_below_drewN | apply below_drew1 | refine below_set ?_ GE937.out) | exact HB.out)); (case side2 => exact Kd.R_tight rfl HO0_3.out); (case side3 => exact Kd.R_tight rfl HO0_4.out); rintro e w8 ⟨rfl, hy0, hy1, hb, hkp⟩; refine ⟨_, rfl, ?_⟩; have n0_ := Aside0.mk (Kd.R_reok rfl hy0 (fun k_ e_ => HO0_3.out.1 k_ e_)); have n1_ := Aside0.mk (Kd.R_reok rfl hy1 (fun k_ e_ => HO0_4.out.1 k_ e_)); have n2_ := Aside0.mk (blk_kept (bs BK937.out) hkp (fun hs_ => Or.elim hs_ (fun e_ => (fun e_ => (Kd.R_ne HO0_3.out BK937.out (by decide)) e_) e_) (fun e_ => (fun e_ => (Kd.R_ne HO0_4.out BK937.out (by decide)) e_) e_))); have n3_ := Aside0.mk (Kept.then_ (S := (fun k_ => P0_3_ k_ ∨ P0_4_ k_)) (by repeat (first | (with_reducible first | exact HK.out | apply Kept.alloc | apply Kept.drewN | apply Kept.drew | refine Kept.setCell ?_ (.inr GW937.out) _) | exact HK.out)) hkp (fun k_ hs_ => Or.elim hs_ (fun e_ => (fun e_ => (HO0_3.out.1 k_ e_.symm)) e_) (fun e_ => (fun e_ => (HO0_4.out.1 k_ e_.symm)) e_))); have n4_ := Aside0.mk (hb); replace HO0_3 := n0_; replace HO0_4 := n1_; replace BK937 := n2_; replace HK := n3_; replace HB := n4_; clear n0_ n1_ n2_ n3_ n4_; (try clear hb); (try clear hkp); (try clear hy0); (try clear hy1)))
 go_ret
 exact ⟨by first | rfl | (simp [errW_none, errW_some] <;> rfl) | (simp [*, errW_none, errW_some] <;> rfl), by (with_reducible repeat (first | apply Kd.R_alloc | apply Kd.R_drewN | apply Kd.R_drew)); exact HO0_3.out, by (with_reducible repeat (first | apply Kd.R_alloc | apply Kd.R_drewN | apply Kd.R_drew)); exact HO0_4.out, by repeat (first | (with_reducible first | exact bw HB.out | refine bset ?_ | apply bA | apply bN | apply bD) | exact HB.out), by repeat (first | (with_reducible first | exact HK.out | apply Kept.alloc | apply Kept.drewN | apply Kept.drew | refine Kept.setCell ?_ (.inr GW937.out) _) | exact HK.out)⟩

/-! ### laws_heldConsole: function 54 -/
def laws_heldConsole.f (k : Nat) (a0_0 : Int) (a0_1 : Int) (a0_2 : Int) (l0_3 : List (S137)) (l0_4 : List (S135)) (a0_5 : ByteArray) (a0_6 : ByteArray) (a0_7 : Int) (a1 : Int) : Option (Int) := (laws_heldDispatcher.f k a0_0 a0_1 a0_2 l0_3 l0_4 a1).bind fun t942 => (if t942 < 0 then (some (-1)) else (some t942))
theorem laws_heldConsole.mono : ∀ a0 a1 a2 a3 a4 a5 a6 a7 a8 k, LeO (laws_heldConsole.f k a0 a1 a2 a3 a4 a5 a6 a7 a8) (laws_heldConsole.f (k + 1) a0 a1 a2 a3 a4 a5 a6 a7 a8) := by
 intro a0 a1 a2 a3 a4 a5 a6 a7 a8 k
 unfold laws_heldConsole.f
 repeat' first
   | (with_reducible exact laws_heldDispatcher.mono _ _ _ _ _ _ _)
   | (with_reducible exact LeO.refl _)
   | (with_reducible exact LeO.none _)
   | (with_reducible refine LeO.ite ?_ ?_)
   | (with_reducible refine LeO.bind ?_ (fun _ => ?_))
   | exact laws_heldDispatcher.mono _ _ _ _ _ _ _
   | exact LeO.none _
   | refine LeO.ite ?_ ?_
   | refine LeO.bind ?_ (fun _ => ?_)
set_option maxHeartbeats 8000000 in
set_option maxRecDepth 100000 in
theorem laws_heldConsole.calls (k : Nat) (a0_0 : Int) (a0_1 : Int) (a0_2 : Int) (A0_3 : Option Addr) (c0_3 : Nat) (l0_3 : List (S137)) (A0_4 : Option Addr) (c0_4 : Nat) (l0_4 : List (S135)) (a0_5 : ByteArray) (a0_6 : ByteArray) (a0_7 : Int) (a1 : Int) (r : Int) (w : World) (hr0_3 : Kd.C k137 w A0_3 l0_3.length l0_3) (hc0_3 : l0_3.length ≤ c0_3) (hr0_4 : Kd.C k135 w A0_4 l0_4.length l0_4) (hc0_4 : l0_4.length ≤ c0_4) (h : laws_heldConsole.f k a0_0 a0_1 a0_2 l0_3 l0_4 a0_5 a0_6 a0_7 a1 = some r) :
  Calls Try.prog 54 #[.agg #[.int .i64 a0_0, .int .i64 a0_1, .int .i64 a0_2, .slice A0_3 l0_3.length c0_3, .slice A0_4 l0_4.length c0_4, .string a0_5, .string a0_6, .int .i64 a0_7], .int .i64 a1] w fun e w' => e = .returned (.int .i64 r) ∧ Below w.heap.size w w' := by
 have hu72 := Try.underlying72
 have hu25 := Try.underlying25
 have HR0_3 := Aside0.mk hr0_3
 have HC0_3 := Aside0.mk hc0_3
 clear hr0_3 hc0_3
 have HR0_4 := Aside0.mk hr0_4
 have HC0_4 := Aside0.mk hc0_4
 clear hr0_4 hc0_4
 have HB := Aside0.mk (Below.refl w.heap.size w)
 have H : ((laws_heldDispatcher.f k a0_0 a0_1 a0_2 l0_3 l0_4 a1).bind fun t942 => (if t942 < 0 then (some (-1)) else (some t942))) = some r := h
 clear h
 replace H := Option.bind_eq_some_iff.mp H
 obtain ⟨t942, A30, H⟩ := H
 replace H : (if t942 < 0 then (some (-1)) else (some t942)) = some r := H
 have A3 := Aside0.mk A30
 clear A30
 by_cases c4 : t942 < 0
 ·rw [if_pos c4] at H
  have c4b0 : decide (t942 < 0) = true := decide_eq_true c4
  clear c4
  obtain rfl := Option.some.inj H
  go_enter Try.func54, Try.ntmps54
  go_wp2_with (first | ((with_reducible refine gate_dst (N := 2) rfl ?_); refine box_event ?hg (N := 2) ?hd (cs := #[.int .i64 a0_0, .int .i64 a0_1, .int .i64 a0_2, .slice A0_3 l0_3.length c0_3, .slice A0_4 l0_4.length c0_4, .string a0_5, .string a0_6, .int .i64 a0_7]) (t := 72) ?hr ?_; (case hd => rfl); (case hg => rfl); (case hr => first | (go_simp; done) | (go_simp; rfl)); intro gb941 hg w5 hbox hb; have n0_ := Aside0.mk (below_step (bw HB.out) hb); have n1_ := Aside0.mk (hbox); have n2_ := ge_ hg HB.out; have n3_ := ge_ hg HB.out; replace HB := n0_; have BK941 := n1_; have GW941 := n2_; have GE941 := n3_; clear n0_ n1_ n2_ n3_; clear hb hbox hg; obtain ⟨hcz6_0, hcz6_1, hcz6_2, hcz6_3, hcz6_4, hcz6_5, hcz6_6, hcz6_7, hfz6_0, hfz6_1, hfz6_2, hfz6_3, hfz6_4, hfz6_5, hfz6_6, hfz6_7⟩ := bz8 BK941.out) | ((with_reducible refine gate_callee (f := 20) rfl ?_); refine goesL_ (some 8) rfl rfl Try.func20 (by kernel_rfl) rfl #[.agg #[.int .i64 a0_0, .int .i64 a0_1, .int .i64 a0_2, .slice A0_3 l0_3.length c0_3, .slice A0_4 l0_4.length c0_4], .int .i64 a1] rfl (by (try simp only [mA_]); first | done | rfl | (simp only [List.length_drop, List.length_take]; rfl)) ?_; (with_reducible refine (laws_heldDispatcher.calls k a0_0 a0_1 a0_2 _ _ l0_3 _ _ l0_4 a1 t942 _ ?side1 ?side2 ?side3 ?side4 A3.out).mono ?_); (case side1 => first | exact bC HR0_3.out HB.out | exact Kd.C_below HR0_3.out HB.out); (case side2 => exact HC0_3.out); (case side3 => first | exact bC HR0_4.out HB.out | exact Kd.C_below HR0_4.out HB.out); (case side4 => exact HC0_4.out); rintro e w7 ⟨rfl, hb⟩; refine ⟨_, rfl, ?_⟩; have n0_ := Aside0.mk (blk_below (bs BK941.out) hb); have n1_ := Aside0.mk (below_step (by repeat (first | (with_reducible first | exact bw HB.out | refine bset ?_ | apply bA | apply bN | apply bD) | exact HB.out)) hb); replace BK941 := n0_; replace HB := n1_; clear n0_ n1_; (try clear hb); (try clear hb2); (try clear hk); (try clear hi)))
  go_ret
  exact ⟨by first | rfl | (simp [errW_none, errW_some] <;> rfl) | (simp [*, errW_none, errW_some] <;> rfl), by repeat (first | (with_reducible first | exact bw HB.out | refine bset ?_ | apply bA | apply bN | apply bD) | exact HB.out)⟩
 rw [if_neg c4] at H
 have c4b0 : decide (t942 < 0) = false := decide_eq_false c4
 clear c4
 obtain rfl := Option.some.inj H
 go_enter Try.func54, Try.ntmps54
 go_wp2_with (first | ((with_reducible refine gate_dst (N := 2) rfl ?_); refine box_event ?hg (N := 2) ?hd (cs := #[.int .i64 a0_0, .int .i64 a0_1, .int .i64 a0_2, .slice A0_3 l0_3.length c0_3, .slice A0_4 l0_4.length c0_4, .string a0_5, .string a0_6, .int .i64 a0_7]) (t := 72) ?hr ?_; (case hd => rfl); (case hg => rfl); (case hr => first | (go_simp; done) | (go_simp; rfl)); intro gb941 hg w8 hbox hb; have n0_ := Aside0.mk (below_step (bw HB.out) hb); have n1_ := Aside0.mk (hbox); have n2_ := ge_ hg HB.out; have n3_ := ge_ hg HB.out; replace HB := n0_; have BK941 := n1_; have GW941 := n2_; have GE941 := n3_; clear n0_ n1_ n2_ n3_; clear hb hbox hg; obtain ⟨hcz9_0, hcz9_1, hcz9_2, hcz9_3, hcz9_4, hcz9_5, hcz9_6, hcz9_7, hfz9_0, hfz9_1, hfz9_2, hfz9_3, hfz9_4, hfz9_5, hfz9_6, hfz9_7⟩ := bz8 BK941.out) | ((with_reducible refine gate_callee (f := 20) rfl ?_); refine goesL_ (some 8) rfl rfl Try.func20 (by kernel_rfl) rfl #[.agg #[.int .i64 a0_0, .int .i64 a0_1, .int .i64 a0_2, .slice A0_3 l0_3.length c0_3, .slice A0_4 l0_4.length c0_4], .int .i64 a1] rfl (by (try simp only [mA_]); first | done | rfl | (simp only [List.length_drop, List.length_take]; rfl)) ?_; (with_reducible refine (laws_heldDispatcher.calls k a0_0 a0_1 a0_2 _ _ l0_3 _ _ l0_4 a1 t942 _ ?side1 ?side2 ?side3 ?side4 A3.out).mono ?_); (case side1 => first | exact bC HR0_3.out HB.out | exact Kd.C_below HR0_3.out HB.out); (case side2 => exact HC0_3.out); (case side3 => first | exact bC HR0_4.out HB.out | exact Kd.C_below HR0_4.out HB.out); (case side4 => exact HC0_4.out); rintro e w10 ⟨rfl, hb⟩; refine ⟨_, rfl, ?_⟩; have n0_ := Aside0.mk (blk_below (bs BK941.out) hb); have n1_ := Aside0.mk (below_step (by repeat (first | (with_reducible first | exact bw HB.out | refine bset ?_ | apply bA | apply bN | apply bD) | exact HB.out)) hb); replace BK941 := n0_; replace HB := n1_; clear n0_ n1_; (try clear hb); (try clear hb2); (try clear hk); (try clear hi)))
 go_ret
 exact ⟨by first | rfl | (simp [errW_none, errW_some] <;> rfl) | (simp [*, errW_none, errW_some] <;> rfl), by repeat (first | (with_reducible first | exact bw HB.out | refine bset ?_ | apply bA | apply bN | apply bD) | exact HB.out)⟩

end Go.Proofs.Ytafdeppeacmpdaa.X
