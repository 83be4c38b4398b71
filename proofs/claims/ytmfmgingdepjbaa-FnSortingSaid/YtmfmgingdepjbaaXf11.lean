-- Written by a program of this session (wip/gen/xp.py, over the kit's printer). Not trusted: Lean checks it.
import Derived.Test.YtmfmgingdepjbaaX0
import Derived.Test.YtmfmgingdepjbaaXf5
import Derived.Test.YtmfmgingdepjbaaXf6
namespace Go.Proofs.Ytmfmgingdepjbaa.X
open Go.RowKit Go.Proofs.YtmfmgingdepjbaaW.PrintWords Go.Proofs.YtmfmgingdepjbaaW.PrintLast Go.Proofs.YtmfmgingdepjbaaW.PrintMore
attribute [local go_sem] max2_int min2_int max_two min_two max_three min_three max_four min_four   -- for this text's walks alone
set_option linter.unusedVariables false
set_option linter.unusedSimpArgs false

/-! ### impl_endsOf: function 44 -/
def impl_endsOf.l0 : Nat → List (S42) → List Int → Int → List Int → Int → Int → Option (List Int)
 | 0, _, _, _, _, _, _ => none
 | k + 1, x0, x5, x6, x12, x13, x14 => if x14 < x13 then (if 0 ≤ x14 then (if x14 < (x12.length : Int) then (if 0 ≤ (rd x12 x14) then (if (rd x12 x14) < (x0.length : Int) then (if (rd x12 x14) < (x5.length : Int) then (impl_endsOf.l0 k x0 (x5.set ((rd x12 x14) : Int).toNat (wrap64 ((mx x6 ((rd_T42 x0 (rd x12 x14)).f2)) + ((rd_T42 x0 (rd x12 x14)).f0)))) (wrap64 ((mx x6 ((rd_T42 x0 (rd x12 x14)).f2)) + ((rd_T42 x0 (rd x12 x14)).f0))) x12 x13 (wrap64 (x14 + 1))) else (none)) else (none)) else (none)) else (none)) else (none)) else (some x5)
def impl_endsOf.f (k : Nat) (l0 : List (S42)) (l1 : List Int) : Option (List Int) := if 0 ≤ (l0.length : Int) then (if ((l0.length : Int) : Int).toNat ≤ 35184372088832 then (impl_endsOf.l0 k l0 (List.replicate ((l0.length : Int) : Int).toNat 0) 0 l1 (l1.length : Int) 0) else (none)) else (none)
theorem impl_endsOf.mono_l : ∀ k, (∀ y0 y1 y2 y3 y4 y5, LeO (impl_endsOf.l0 k y0 y1 y2 y3 y4 y5) (impl_endsOf.l0 (k + 1) y0 y1 y2 y3 y4 y5))
 | 0 => fun _ _ _ _ _ _ r h => by simp [impl_endsOf.l0] at h
 | k + 1 => by
  have ih0 := impl_endsOf.mono_l k
  ·intro y0 y1 y2 y3 y4 y5
   unfold impl_endsOf.l0
   repeat' first
   | (with_reducible exact ih0 _ _ _ _ _ _)
   | (with_reducible exact LeO.refl _)
   | (with_reducible exact LeO.none _)
   | (with_reducible refine LeO.ite ?_ ?_)
   | (with_reducible refine LeO.bind ?_ (fun _ => ?_))
   | exact ih0 _ _ _ _ _ _
   | exact LeO.none _
   | refine LeO.ite ?_ ?_
   | refine LeO.bind ?_ (fun _ => ?_)
theorem impl_endsOf.mono : ∀ a0 a1 k, LeO (impl_endsOf.f k a0 a1) (impl_endsOf.f (k + 1) a0 a1) := by
 intro a0 a1 k
 have ih0 := impl_endsOf.mono_l k
 unfold impl_endsOf.f
 repeat' first
   | (with_reducible exact ih0 _ _ _ _ _ _)
   | (with_reducible exact LeO.refl _)
   | (with_reducible exact LeO.none _)
   | (with_reducible refine LeO.ite ?_ ?_)
   | (with_reducible refine LeO.bind ?_ (fun _ => ?_))
   | exact ih0 _ _ _ _ _ _
   | exact LeO.none _
   | refine LeO.ite ?_ ?_
   | refine LeO.bind ?_ (fun _ => ?_)
set_option maxHeartbeats 8000000 in
set_option maxRecDepth 100000 in
theorem impl_endsOf.calls (k : Nat) (A0 : Option Addr) (c0 : Nat) (l0 : List (S42)) (A1 : Option Addr) (c1 : Nat) (l1 : List Int) (r : List Int) (w : World) (hr0 : Kd.C k42 w A0 l0.length l0) (hc0 : l0.length ≤ c0) (hr1 : Kd.C (Kd.int .i64) w A1 l1.length l1) (hc1 : l1.length ≤ c1) (h : impl_endsOf.f k l0 l1 = some r) :
  Calls Try.prog 44 #[.slice A0 l0.length c0, .slice A1 l1.length c1] w fun e w' => ∃ v0_ : Value, e = .returned (v0_) ∧ Kd.R (Kd.int .i64) 3 w' w.heap.size (fun _ => True) v0_ r ∧ Below w.heap.size w w' := by
 have HR0 := Aside0.mk hr0
 have HC0 := Aside0.mk hc0
 clear hr0 hc0
 have HR1 := Aside0.mk hr1
 have HC1 := Aside0.mk hc1
 clear hr1 hc1
 have HB := Aside0.mk (Below.refl w.heap.size w)
 have H : (if 0 ≤ (l0.length : Int) then (if ((l0.length : Int) : Int).toNat ≤ 35184372088832 then (impl_endsOf.l0 k l0 (List.replicate ((l0.length : Int) : Int).toNat 0) 0 l1 (l1.length : Int) 0) else (none)) else (none)) = some r := h
 clear h
 by_cases c3 : 0 ≤ (l0.length : Int)
 rotate_left
 ·rw [if_neg c3] at H
  exact absurd H (by simp)
 rw [if_pos c3] at H
 have c3b0 := eq_true c3
 have c3b1 : decide (0 ≤ (l0.length : Int)) = true := decide_eq_true c3
 clear c3
 by_cases c4 : ((l0.length : Int) : Int).toNat ≤ 35184372088832
 rotate_left
 ·rw [if_neg c4] at H
  exact absurd H (by simp)
 rw [if_pos c4] at H
 have c4b0 := eq_true c4
 have c4b1 : decide (((l0.length : Int) : Int).toNat ≤ 35184372088832) = true := decide_eq_true c4
 clear c4
 obtain ⟨y431, hy431⟩ : ∃ y_ : List Int, y_ = (List.replicate ((l0.length : Int) : Int).toNat 0) := ⟨_, rfl⟩
 replace H : (impl_endsOf.l0 k l0 y431 0 l1 (l1.length : Int) 0) = some r := by first | (rw [hy431]; with_reducible exact H) | (have H2_ := (Option.bind_some _ _).symm.trans H; rw [hy431]; with_reducible exact H2_) | (have H2_ := (Option.bind_some _ _).symm.trans H; with_reducible exact H2_) | with_reducible exact H | (rw [hy431]; exact H) | exact H
 have Ny431 := Aside0.mk hy431
 clear hy431
 have H' := Aside0.mk H
 clear H
 go_enter Try.func44, Try.ntmps44
 have go_ := True.intro
 repeat ((first | go_quiet (first | ((with_reducible refine gate_dst (N := 11) rfl ?_); refine Kd.R_make (Kd.int .i64) _ 3 rfl (N := 11) rfl 25 _ _ rfl (l0.length : Int) rfl rfl Try.underlying25 (.int .i64 0) 8 info3 rfl (by decide) (by omega) 0 (ok := fun _ => True) (okp := fun _ => True) rfl (fun _ hk => hk) trivial (of_decide_eq_true (by first | (with_reducible assumption) | assumption)) (Nat.le_trans (Nat.mul_le_mul_right _ (of_decide_eq_true (by first | (with_reducible assumption) | assumption) : (l0.length : Int).toNat ≤ 35184372088832)) (by omega)) (Below.refl _ _) (Nat.le_refl _) ?_; intro v432 w5 ho6 hb hg_ hnew_; clear hg_ hnew_; (first | rw [← Ny431.out] at ho6 | (simp only [Int.reduceToNat] at ho6; rw [← Ny431.out] at ho6)); have n0_ := Aside0.mk (Kd.R_lower ho6 (below_size (bw HB.out))); have n1_ := Aside0.mk (below_step (bw HB.out) hb); have HO433 := n0_; replace HB := n1_; clear n0_ n1_; clear hb ho6)) | clear go_); go_wp2_with (first | ((with_reducible refine gate_dst (N := 11) rfl ?_); refine Kd.R_make (Kd.int .i64) _ 3 rfl (N := 11) rfl 25 _ _ rfl (l0.length : Int) rfl rfl Try.underlying25 (.int .i64 0) 8 info3 rfl (by decide) (by omega) 0 (ok := fun _ => True) (okp := fun _ => True) rfl (fun _ hk => hk) trivial (of_decide_eq_true (by first | (with_reducible assumption) | assumption)) (Nat.le_trans (Nat.mul_le_mul_right _ (of_decide_eq_true (by first | (with_reducible assumption) | assumption) : (l0.length : Int).toNat ≤ 35184372088832)) (by omega)) (Below.refl _ _) (Nat.le_refl _) ?_; intro v432 w5 ho6 hb hg_ hnew_; clear hg_ hnew_; (first | rw [← Ny431.out] at ho6 | (simp only [Int.reduceToNat] at ho6; rw [← Ny431.out] at ho6)); have n0_ := Aside0.mk (Kd.R_lower ho6 (below_size (bw HB.out))); have n1_ := Aside0.mk (below_step (bw HB.out) hb); have HO433 := n0_; replace HB := n1_; clear n0_ n1_; clear hb ho6)))
 go_loopg [6, 14] k (fun kq v6 v14 w' => ∃ (x5_1 : List Int) (x6_1 : Int) (x14_1 : Int), v6 = .int .i64 x6_1 ∧ v14 = .int .i64 x14_1 ∧ Aside0 (impl_endsOf.l0 kq l0 x5_1 x6_1 l1 (l1.length : Int) x14_1 = some r) ∧ Aside0 (kq ≤ k) ∧ Aside0 (Kd.R (Kd.int .i64) 3 w' w.heap.size (fun _ => True) v432 x5_1) ∧ Aside0 (Below w.heap.size w w'))
 case atStart => exact ⟨(y431), (0), (0), (by first | rfl | (simp; done) | (simp [*]; done)), (by first | rfl | (simp; done) | (simp [*]; done)), H', ⟨Nat.le_refl _⟩, ⟨bR HO433.out⟩, ⟨bw HB.out⟩⟩
 case round =>
  clear H'
  try clear c1
  try clear p2
  try clear c3
  try clear c3b0
  try clear c3b1
  try clear c4
  try clear c4b0
  try clear c4b1
  obtain ⟨x5_1, x6_1, x14_1, rfl, rfl, HA, HK1, HO_5, HB⟩ := hrel
  cases gk with
  | zero => exact absurd HA.out (by simp [impl_endsOf.l0])
  | succ k1 =>
   have H := HA.out
   clear HA
   simp only [impl_endsOf.l0] at H
   by_cases c7 : x14_1 < (l1.length : Int)
   rotate_left
   ·rw [if_neg c7] at H
    have c7b0 : decide (x14_1 < (l1.length : Int)) = false := decide_eq_false c7
    clear c7
    obtain rfl := Option.some.inj H
    go_wp2
    repeat (go_quiet (fail); try go_wp2)
    go_ret
    exact ⟨_, by first | rfl | (simp [errW_none, errW_some] <;> rfl) | (simp [*, errW_none, errW_some] <;> rfl), by (with_reducible repeat (first | apply Kd.R_alloc | apply Kd.R_drewN | apply Kd.R_drew)); exact HO_5.out, bw HB.out⟩
   rw [if_pos c7] at H
   have c7b0 : decide (x14_1 < (l1.length : Int)) = true := decide_eq_true c7
   clear c7
   by_cases c8 : 0 ≤ x14_1
   rotate_left
   ·rw [if_neg c8] at H
    exact absurd H (by simp)
   rw [if_pos c8] at H
   have c8b0 : decide (0 ≤ x14_1) = true := decide_eq_true c8
   clear c8
   by_cases c9 : x14_1 < (l1.length : Int)
   rotate_left
   ·rw [if_neg c9] at H
    exact absurd H (by simp)
   rw [if_pos c9] at H
   have c9b0 : decide (x14_1 < (l1.length : Int)) = true := decide_eq_true c9
   clear c9
   by_cases c10 : 0 ≤ (rd l1 x14_1)
   rotate_left
   ·rw [if_neg c10] at H
    exact absurd H (by simp)
   rw [if_pos c10] at H
   have c10b0 : decide (0 ≤ (rd l1 x14_1)) = true := decide_eq_true c10
   clear c10
   by_cases c11 : (rd l1 x14_1) < (l0.length : Int)
   rotate_left
   ·rw [if_neg c11] at H
    exact absurd H (by simp)
   rw [if_pos c11] at H
   have c11b0 : decide ((rd l1 x14_1) < (l0.length : Int)) = true := decide_eq_true c11
   clear c11
   obtain ⟨ji12, hji12⟩ : ∃ j_ : Int, (mx x6_1 ((rd_T42 l0 (rd l1 x14_1)).f2)) = j_ := ⟨_, rfl⟩
   replace H : (if (rd l1 x14_1) < (x5_1.length : Int) then (impl_endsOf.l0 k1 l0 (x5_1.set ((rd l1 x14_1) : Int).toNat (wrap64 ((ji12) + ((rd_T42 l0 (rd l1 x14_1)).f0)))) (wrap64 ((ji12) + ((rd_T42 l0 (rd l1 x14_1)).f0))) l1 (l1.length : Int) (wrap64 (x14_1 + 1))) else (none)) = some r := by first | (rw [hji12] at H; exact H) | (simp only [hji12] at H ⊢; exact H)
   have hji12_ : (if x6_1 < ((rd_T42 l0 (rd l1 x14_1)).f2) then ((rd_T42 l0 (rd l1 x14_1)).f2) else x6_1) = ji12 := hji12
   by_cases c13 : (rd l1 x14_1) < (x5_1.length : Int)
   rotate_left
   ·rw [if_neg c13] at H
    exact absurd H (by simp)
   rw [if_pos c13] at H
   have c13b0 : decide ((rd l1 x14_1) < (x5_1.length : Int)) = true := decide_eq_true c13
   clear c13
   obtain ⟨y437, hy437⟩ : ∃ y_ : List Int, y_ = (x5_1.set ((rd l1 x14_1) : Int).toNat (wrap64 ((ji12) + ((rd_T42 l0 (rd l1 x14_1)).f0)))) := ⟨_, rfl⟩
   replace H : (impl_endsOf.l0 k1 l0 y437 (wrap64 ((ji12) + ((rd_T42 l0 (rd l1 x14_1)).f0))) l1 (l1.length : Int) (wrap64 (x14_1 + 1))) = some r := by first | (rw [hy437]; with_reducible exact H) | (have H2_ := (Option.bind_some _ _).symm.trans H; rw [hy437]; with_reducible exact H2_) | (have H2_ := (Option.bind_some _ _).symm.trans H; with_reducible exact H2_) | with_reducible exact H | (rw [hy437]; exact H) | exact H
   have Ny437 := Aside0.mk hy437
   clear hy437
   have H' := Aside0.mk H
   clear H
   have p434 : 0 ≤ (x14_1 : Int) := of_decide_eq_true (by first | (with_reducible assumption) | assumption)
   have q434 : x14_1 < (l1.length : Int) := of_decide_eq_true (by first | (with_reducible assumption) | assumption)
   obtain ⟨ad434, e434, hx434_0⟩ := Kd.at_int HR1.out x14_1 p434 q434
   cases e434
   replace hx434_0 := (HB.out.cell (World.block_lt_of_cell? w _ hx434_0)).trans hx434_0
   replace p434 := eq_true p434
   replace q434 := eq_true q434
   have p435 : 0 ≤ ((rd l1 x14_1) : Int) := of_decide_eq_true (by first | (with_reducible assumption) | assumption)
   have q435 : (rd l1 x14_1) < (l0.length : Int) := of_decide_eq_true (by first | (with_reducible assumption) | assumption)
   obtain ⟨ad435, e435, hx435_0, hx435_1, hx435_2, hx435_3⟩ := at_T42 HR0.out (rd l1 x14_1) p435 q435
   cases e435
   replace hx435_0 := (HB.out.cell (World.block_lt_of_cell? w _ hx435_0)).trans hx435_0
   replace hx435_1 := (HB.out.cell (World.block_lt_of_cell? w _ hx435_1)).trans hx435_1
   replace hx435_2 := (HB.out.cell (World.block_lt_of_cell? w _ hx435_2)).trans hx435_2
   replace hx435_3 := (HB.out.cell (World.block_lt_of_cell? w _ hx435_3)).trans hx435_3
   replace p435 := eq_true p435
   replace q435 := eq_true q435
   have p436 : 0 ≤ ((rd l1 x14_1) : Int) := of_decide_eq_true (by first | (with_reducible assumption) | assumption)
   have q436 : (rd l1 x14_1) < (l0.length : Int) := of_decide_eq_true (by first | (with_reducible assumption) | assumption)
   obtain ⟨ad436, e436, hx436_0, hx436_1, hx436_2, hx436_3⟩ := at_T42 HR0.out (rd l1 x14_1) p436 q436
   obtain rfl : ad435 = ad436 := (by injection e436)
   replace hx436_0 := (HB.out.cell (World.block_lt_of_cell? w _ hx436_0)).trans hx436_0
   replace hx436_1 := (HB.out.cell (World.block_lt_of_cell? w _ hx436_1)).trans hx436_1
   replace hx436_2 := (HB.out.cell (World.block_lt_of_cell? w _ hx436_2)).trans hx436_2
   replace hx436_3 := (HB.out.cell (World.block_lt_of_cell? w _ hx436_3)).trans hx436_3
   replace p436 := eq_true p436
   replace q436 := eq_true q436
   have p14 : 0 ≤ ((rd l1 x14_1) : Int) := of_decide_eq_true (by first | (with_reducible assumption) | assumption)
   have q14 : ((rd l1 x14_1) : Int) < ((x5_1.length : Int) : Int) := of_decide_eq_true (by first | (with_reducible assumption) | assumption)
   obtain ⟨go14, co14, eo14, gb14, gl14, cl14, HG14⟩ := Kd.R_form HO_5.out (by omega)
   (first | cases eo14 | (injection eo14 with ea_ en_ ec_; (first | subst ea_ | (injection ea_ with ea_; subst ea_)); subst ec_; clear en_))
   have GB14 := Aside0.mk gb14
   have GG14 := Aside0.mk HG14
   clear gb14 gl14 HG14
   obtain ⟨hx14_0, hf14_0⟩ := Kd.R_celln 0 HO_5.out ((rd l1 x14_1) : Int) p14 q14
   replace p14 := eq_true p14
   replace q14 := eq_true q14
   have HP15 := Kd.R_putg HO_5.out ((rd l1 x14_1) : Int) (wrap64 ((ji12) + ((rd_T42 l0 (rd l1 x14_1)).f0)))
   have go_ := True.intro
   repeat ((first | go_quiet (first | ((with_reducible refine gate_store (t := 3) (p := 34) rfl ?_); (try (rw [drewN_self wr]; generalize hq_ : World.drewN wr _ = wr; have n0_ := Aside0.mk (Kd.R_at hq_ HO_5.out); have n1_ := Aside0.mk (below_at hq_ HB.out); (try replace hx434_0 := cell_at hq_ hx434_0); (try replace hx435_0 := cell_at hq_ hx435_0); (try replace hx435_1 := cell_at hq_ hx435_1); (try replace hx435_2 := cell_at hq_ hx435_2); (try replace hx435_3 := cell_at hq_ hx435_3); (try replace hx436_0 := cell_at hq_ hx436_0); (try replace hx436_1 := cell_at hq_ hx436_1); (try replace hx436_2 := cell_at hq_ hx436_2); (try replace hx436_3 := cell_at hq_ hx436_3); (try replace hx14_0 := cell_at hq_ hx14_0); (try replace hf14_0 := frz_at hq_ hf14_0); clear hq_ HO_5 HB; have HO_5 := n0_; have HB := n1_; clear n0_ n1_; (try (have HP15 := Kd.R_putg HO_5.out ((rd l1 x14_1) : Int) (wrap64 ((ji12) + ((rd_T42 l0 (rd l1 x14_1)).f0))))))); refine store_event (t := 3) (p := 34) (v := ?vo_w16) (w1 := (wr.setCell ⟨go14, ((rd l1 x14_1) : Int).toNat, none⟩ (.int .i64 (wrap64 ((ji12) + ((rd_T42 l0 (rd l1 x14_1)).f0)))))) ?hg ?ho ?hn ?hr ?_; (case ho => rfl); (case hg => rfl); (case hn => rfl); (case hr => first | (go_simp; done) | (go_simp; rfl)); intro w16 hw; have hg : wr.grownBy w16 (some go14) := (by rw [hw]; exact HP15.2); have hp_ : Kd.R (Kd.int .i64) 3 w16 w.heap.size (fun _ => True) (.slice (some ⟨go14, 0, none⟩) x5_1.length co14) y437 := (by rw [hw, Ny437.out]; exact HP15.1); clear HP15; have n0_ := Aside0.mk (hp_); have n1_ := Aside0.mk ((by rw [hw]; exact below_set (HB.out) GB14.out : Below w.heap.size w w16)); replace HO_5 := n0_; replace HB := n1_; clear n0_ n1_; clear hg hw hp_)) | clear go_); go_wp2_with (first | ((with_reducible refine gate_store (t := 3) (p := 34) rfl ?_); (try (rw [drewN_self wr]; generalize hq_ : World.drewN wr _ = wr; have n0_ := Aside0.mk (Kd.R_at hq_ HO_5.out); have n1_ := Aside0.mk (below_at hq_ HB.out); (try replace hx434_0 := cell_at hq_ hx434_0); (try replace hx435_0 := cell_at hq_ hx435_0); (try replace hx435_1 := cell_at hq_ hx435_1); (try replace hx435_2 := cell_at hq_ hx435_2); (try replace hx435_3 := cell_at hq_ hx435_3); (try replace hx436_0 := cell_at hq_ hx436_0); (try replace hx436_1 := cell_at hq_ hx436_1); (try replace hx436_2 := cell_at hq_ hx436_2); (try replace hx436_3 := cell_at hq_ hx436_3); (try replace hx14_0 := cell_at hq_ hx14_0); (try replace hf14_0 := frz_at hq_ hf14_0); clear hq_ HO_5 HB; have HO_5 := n0_; have HB := n1_; clear n0_ n1_; (try (have HP15 := Kd.R_putg HO_5.out ((rd l1 x14_1) : Int) (wrap64 ((ji12) + ((rd_T42 l0 (rd l1 x14_1)).f0))))))); refine store_event (t := 3) (p := 34) (v := ?vo_w16) (w1 := (wr.setCell ⟨go14, ((rd l1 x14_1) : Int).toNat, none⟩ (.int .i64 (wrap64 ((ji12) + ((rd_T42 l0 (rd l1 x14_1)).f0)))))) ?hg ?ho ?hn ?hr ?_; (case ho => rfl); (case hg => rfl); (case hn => rfl); (case hr => first | (go_simp; done) | (go_simp; rfl)); intro w16 hw; have hg : wr.grownBy w16 (some go14) := (by rw [hw]; exact HP15.2); have hp_ : Kd.R (Kd.int .i64) 3 w16 w.heap.size (fun _ => True) (.slice (some ⟨go14, 0, none⟩) x5_1.length co14) y437 := (by rw [hw, Ny437.out]; exact HP15.1); clear HP15; have n0_ := Aside0.mk (hp_); have n1_ := Aside0.mk ((by rw [hw]; exact below_set (HB.out) GB14.out : Below w.heap.size w w16)); replace HO_5 := n0_; replace HB := n1_; clear n0_ n1_; clear hg hw hp_)))
   go_roundg k1
   case measure => have := HK1.out; omega
   case rel => exact ⟨(y437), (wrap64 ((ji12) + ((rd_T42 l0 (rd l1 x14_1)).f0))), (wrap64 (x14_1 + 1)), (by first | rfl | (simp; done) | (simp only [← hji12] <;> (first | rfl | simp)) | (simp [*]; done)), (by first | rfl | (simp; done) | (simp [*]; done)), H', ⟨by have := HK1.out; omega⟩, ⟨bR HO_5.out⟩, ⟨bw HB.out⟩⟩

/-! ### impl_valueOf: function 28 -/
def impl_valueOf.f (k : Nat) (l0 : List (S42)) (l1 : List Int) (a2 : Int) : Option (Int) := (impl_endsOf.f k l0 l1).bind fun t438 => ((impl_valueOfEnds.f k l0 t438 a2).bind fun t441 => (some t441))
theorem impl_valueOf.mono : ∀ a0 a1 a2 k, LeO (impl_valueOf.f k a0 a1 a2) (impl_valueOf.f (k + 1) a0 a1 a2) := by
 intro a0 a1 a2 k
 unfold impl_valueOf.f
 repeat' first
   | (with_reducible exact impl_endsOf.mono _ _ _)
   | (with_reducible exact impl_valueOfEnds.mono _ _ _ _)
   | (with_reducible exact LeO.refl _)
   | (with_reducible exact LeO.none _)
   | (with_reducible refine LeO.ite ?_ ?_)
   | (with_reducible refine LeO.bind ?_ (fun _ => ?_))
   | exact impl_endsOf.mono _ _ _
   | exact impl_valueOfEnds.mono _ _ _ _
   | exact LeO.none _
   | refine LeO.ite ?_ ?_
   | refine LeO.bind ?_ (fun _ => ?_)
set_option maxHeartbeats 8000000 in
set_option maxRecDepth 100000 in
theorem impl_valueOf.calls (k : Nat) (A0 : Option Addr) (c0 : Nat) (l0 : List (S42)) (A1 : Option Addr) (c1 : Nat) (l1 : List Int) (a2 : Int) (r : Int) (w : World) (hr0 : Kd.C k42 w A0 l0.length l0) (hc0 : l0.length ≤ c0) (hr1 : Kd.C (Kd.int .i64) w A1 l1.length l1) (hc1 : l1.length ≤ c1) (h : impl_valueOf.f k l0 l1 a2 = some r) :
  Calls Try.prog 28 #[.slice A0 l0.length c0, .slice A1 l1.length c1, .int .i64 a2] w fun e w' => e = .returned (.int .i64 r) ∧ Below w.heap.size w w' := by
 have HR0 := Aside0.mk hr0
 have HC0 := Aside0.mk hc0
 clear hr0 hc0
 have HR1 := Aside0.mk hr1
 have HC1 := Aside0.mk hc1
 clear hr1 hc1
 have HB := Aside0.mk (Below.refl w.heap.size w)
 have H : ((impl_endsOf.f k l0 l1).bind fun t438 => ((impl_valueOfEnds.f k l0 t438 a2).bind fun t441 => (some t441))) = some r := h
 clear h
 replace H := Option.bind_eq_some_iff.mp H
 obtain ⟨t438, A40, H⟩ := H
 replace H : ((impl_valueOfEnds.f k l0 t438 a2).bind fun t441 => (some t441)) = some r := H
 have A4 := Aside0.mk A40
 clear A40
 replace H := Option.bind_eq_some_iff.mp H
 obtain ⟨t441, A50, H⟩ := H
 replace H : (some t441) = some r := H
 have A5 := Aside0.mk A50
 clear A50
 obtain rfl := Option.some.inj H
 go_enter Try.func28, Try.ntmps28
 go_wp2_with (first | ((with_reducible refine gate_callee (f := 44) rfl ?_); refine goesL_ (some 10) rfl rfl Try.func44 (by kernel_rfl) rfl #[.slice A0 l0.length c0, .slice A1 l1.length c1] rfl (by (try simp only [mA_]); first | done | rfl | (simp only [List.length_drop, List.length_take]; rfl)) ?_; (with_reducible refine (impl_endsOf.calls k _ _ l0 _ _ l1 t438 _ ?side1 ?side2 ?side3 ?side4 A4.out).mono ?_); (case side1 => repeat (first | exact HR0.out | (with_reducible refine Kd.C_alloc ?_ _) | (with_reducible refine Kd.C_drewN ?_ _) | (with_reducible refine Kd.C_drew ?_))); (case side2 => exact HC0.out); (case side3 => repeat (first | exact HR1.out | (with_reducible refine Kd.C_alloc ?_ _) | (with_reducible refine Kd.C_drewN ?_ _) | (with_reducible refine Kd.C_drew ?_))); (case side4 => exact HC1.out); rintro e w6 ⟨v439, rfl, ho0, hb⟩; refine ⟨_, rfl, ?_⟩; have n0_ := Aside0.mk (Kd.R_lower ho0 (below_size (bw HB.out))); have n1_ := Aside0.mk (below_step (bw HB.out) hb); have HO440 := n0_; replace HB := n1_; clear n0_ n1_; (try clear hb); (try clear hb2); (try clear hk); (try clear hi); (try clear ho0); obtain ⟨Ao7, co7, eo7⟩ := Kd.R_slice HO440.out; subst eo7) | ((with_reducible refine gate_callee (f := 43) rfl ?_); refine goesL_ (some 12) rfl rfl Try.func43 (by kernel_rfl) rfl #[.slice A0 l0.length c0, .slice Ao7 t438.length co7, .int .i64 a2] rfl (by (try simp only [mA_]); first | done | rfl | (simp only [List.length_drop, List.length_take]; rfl)) ?_; (with_reducible refine (impl_valueOfEnds.calls k _ _ l0 _ _ t438 a2 t441 _ ?side1 ?side2 ?side3 ?side4 A5.out).mono ?_); (case side1 => first | exact bC HR0.out HB.out | exact Kd.C_below HR0.out HB.out); (case side2 => exact HC0.out); (case side3 => repeat (first | exact (Kd.R_reads' HO440.out).2.2 | (with_reducible refine Kd.C_alloc ?_ _) | (with_reducible refine Kd.C_drewN ?_ _) | (with_reducible refine Kd.C_drew ?_))); (case side4 => exact (Kd.R_reads' HO440.out).2.1); rintro e w8 ⟨rfl, hb⟩; refine ⟨_, rfl, ?_⟩; have n0_ := Aside0.mk (Kd.R_below (bR HO440.out) hb); have n1_ := Aside0.mk (below_step (bw HB.out) hb); replace HO440 := n0_; replace HB := n1_; clear n0_ n1_; (try clear hb); (try clear hb2); (try clear hk); (try clear hi)))
 go_ret
 exact ⟨by first | rfl | (simp [errW_none, errW_some] <;> rfl) | (simp [*, errW_none, errW_some] <;> rfl), bw HB.out⟩

/-! ### impl_gain: function 26 -/
def impl_gain.f (k : Nat) (l0 : List (S42)) (l1 : List Int) (a2 : Int) (a3 : Int) : Option (Int) := (impl_valueOf.f k l0 l1 a3).bind fun t442 => ((impl_exchanged.f l1 a2).bind fun t443 => ((impl_valueOf.f k l0 t443 a3).bind fun t446 => (some (wrap64 (t442 - t446)))))
theorem impl_gain.mono : ∀ a0 a1 a2 a3 k, LeO (impl_gain.f k a0 a1 a2 a3) (impl_gain.f (k + 1) a0 a1 a2 a3) := by
 intro a0 a1 a2 a3 k
 unfold impl_gain.f
 repeat' first
   | (with_reducible exact impl_valueOf.mono _ _ _ _)
   | (with_reducible exact LeO.refl _)
   | (with_reducible exact LeO.none _)
   | (with_reducible refine LeO.ite ?_ ?_)
   | (with_reducible refine LeO.bind ?_ (fun _ => ?_))
   | exact impl_valueOf.mono _ _ _ _
   | exact LeO.none _
   | refine LeO.ite ?_ ?_
   | refine LeO.bind ?_ (fun _ => ?_)
set_option maxHeartbeats 8000000 in
set_option maxRecDepth 100000 in
theorem impl_gain.calls (k : Nat) (A0 : Option Addr) (c0 : Nat) (l0 : List (S42)) (A1 : Option Addr) (c1 : Nat) (l1 : List Int) (a2 : Int) (a3 : Int) (r : Int) (w : World) (hr0 : Kd.C k42 w A0 l0.length l0) (hc0 : l0.length ≤ c0) (hr1 : Kd.C (Kd.int .i64) w A1 l1.length l1) (hc1 : l1.length ≤ c1) (h : impl_gain.f k l0 l1 a2 a3 = some r) :
  Calls Try.prog 26 #[.slice A0 l0.length c0, .slice A1 l1.length c1, .int .i64 a2, .int .i64 a3] w fun e w' => e = .returned (.int .i64 r) ∧ Below w.heap.size w w' := by
 have HR0 := Aside0.mk hr0
 have HC0 := Aside0.mk hc0
 clear hr0 hc0
 have HR1 := Aside0.mk hr1
 have HC1 := Aside0.mk hc1
 clear hr1 hc1
 have HB := Aside0.mk (Below.refl w.heap.size w)
 have H : ((impl_valueOf.f k l0 l1 a3).bind fun t442 => ((impl_exchanged.f l1 a2).bind fun t443 => ((impl_valueOf.f k l0 t443 a3).bind fun t446 => (some (wrap64 (t442 - t446)))))) = some r := h
 clear h
 replace H := Option.bind_eq_some_iff.mp H
 obtain ⟨t442, A50, H⟩ := H
 replace H : ((impl_exchanged.f l1 a2).bind fun t443 => ((impl_valueOf.f k l0 t443 a3).bind fun t446 => (some (wrap64 (t442 - t446))))) = some r := H
 have A5 := Aside0.mk A50
 clear A50
 replace H := Option.bind_eq_some_iff.mp H
 obtain ⟨t443, A60, H⟩ := H
 replace H : ((impl_valueOf.f k l0 t443 a3).bind fun t446 => (some (wrap64 (t442 - t446)))) = some r := H
 have A6 := Aside0.mk A60
 clear A60
 replace H := Option.bind_eq_some_iff.mp H
 obtain ⟨t446, A70, H⟩ := H
 replace H : (some (wrap64 (t442 - t446))) = some r := H
 have A7 := Aside0.mk A70
 clear A70
 obtain rfl := Option.some.inj H
 go_enter Try.func26, Try.ntmps26
 go_wp2_with (first | ((with_reducible refine gate_callee (f := 28) rfl ?_); refine goesL_ (some 12) rfl rfl Try.func28 (by kernel_rfl) rfl #[.slice A0 l0.length c0, .slice A1 l1.length c1, .int .i64 a3] rfl (by (try simp only [mA_]); first | done | rfl | (simp only [List.length_drop, List.length_take]; rfl)) ?_; (with_reducible refine (impl_valueOf.calls k _ _ l0 _ _ l1 a3 t442 _ ?side1 ?side2 ?side3 ?side4 A5.out).mono ?_); (case side1 => repeat (first | exact HR0.out | (with_reducible refine Kd.C_alloc ?_ _) | (with_reducible refine Kd.C_drewN ?_ _) | (with_reducible refine Kd.C_drew ?_))); (case side2 => exact HC0.out); (case side3 => repeat (first | exact HR1.out | (with_reducible refine Kd.C_alloc ?_ _) | (with_reducible refine Kd.C_drewN ?_ _) | (with_reducible refine Kd.C_drew ?_))); (case side4 => exact HC1.out); rintro e w8 ⟨rfl, hb⟩; refine ⟨_, rfl, ?_⟩; have n0_ := Aside0.mk (below_step (bw HB.out) hb); replace HB := n0_; clear n0_; (try clear hb); (try clear hb2); (try clear hk); (try clear hi)) | ((with_reducible refine gate_callee (f := 18) rfl ?_); refine goesL_ (some 16) rfl rfl Try.func18 (by kernel_rfl) rfl #[.slice A1 l1.length c1, .int .i64 a2] rfl (by (try simp only [mA_]); first | done | rfl | (simp only [List.length_drop, List.length_take]; rfl)) ?_; (with_reducible refine (impl_exchanged.calls _ _ l1 a2 t443 _ ?side1 ?side2 A6.out).mono ?_); (case side1 => first | exact bC HR1.out HB.out | exact Kd.C_below HR1.out HB.out); (case side2 => exact HC1.out); rintro e w9 ⟨v444, rfl, ho0, hb⟩; refine ⟨_, rfl, ?_⟩; have n0_ := Aside0.mk (Kd.R_lower ho0 (below_size (bw HB.out))); have n1_ := Aside0.mk (below_step (bw HB.out) hb); have HO445 := n0_; replace HB := n1_; clear n0_ n1_; (try clear hb); (try clear hb2); (try clear hk); (try clear hi); (try clear ho0); obtain ⟨Ao10, co10, eo10⟩ := Kd.R_slice HO445.out; subst eo10) | ((with_reducible refine gate_callee (f := 28) rfl ?_); refine goesL_ (some 18) rfl rfl Try.func28 (by kernel_rfl) rfl #[.slice A0 l0.length c0, .slice Ao10 t443.length co10, .int .i64 a3] rfl (by (try simp only [mA_]); first | done | rfl | (simp only [List.length_drop, List.length_take]; rfl)) ?_; (with_reducible refine (impl_valueOf.calls k _ _ l0 _ _ t443 a3 t446 _ ?side1 ?side2 ?side3 ?side4 A7.out).mono ?_); (case side1 => first | exact bC HR0.out HB.out | exact Kd.C_below HR0.out HB.out); (case side2 => exact HC0.out); (case side3 => repeat (first | exact (Kd.R_reads' HO445.out).2.2 | (with_reducible refine Kd.C_alloc ?_ _) | (with_reducible refine Kd.C_drewN ?_ _) | (with_reducible refine Kd.C_drew ?_))); (case side4 => exact (Kd.R_reads' HO445.out).2.1); rintro e w11 ⟨rfl, hb⟩; refine ⟨_, rfl, ?_⟩; have n0_ := Aside0.mk (Kd.R_below (bR HO445.out) hb); have n1_ := Aside0.mk (below_step (bw HB.out) hb); replace HO445 := n0_; replace HB := n1_; clear n0_ n1_; (try clear hb); (try clear hb2); (try clear hk); (try clear hi)))
 go_ret
 exact ⟨by first | rfl | (simp [errW_none, errW_some] <;> rfl) | (simp [*, errW_none, errW_some] <;> rfl), bw HB.out⟩

/-! ### impl_ExchangeGain: function 11 -/
def impl_ExchangeGain.f (k : Nat) (l0 : List (S42)) (l1 : List Int) (a2 : Int) (a3 : Int) : Option (Int × Bool) := (impl_isValued.f k l0 l1 a3).bind fun t447 => (if t447 = true then ((impl_within.f a2 0 (wrap64 ((l1.length : Int) - 2))).bind fun t448 => (if t448 = true then ((impl_gain.f k l0 l1 a2 a3).bind fun t449 => (some (t449, true))) else (some (0, false)))) else (some (0, false)))
theorem impl_ExchangeGain.mono : ∀ a0 a1 a2 a3 k, LeO (impl_ExchangeGain.f k a0 a1 a2 a3) (impl_ExchangeGain.f (k + 1) a0 a1 a2 a3) := by
 intro a0 a1 a2 a3 k
 unfold impl_ExchangeGain.f
 repeat' first
   | (with_reducible exact impl_gain.mono _ _ _ _ _)
   | (with_reducible exact impl_isValued.mono _ _ _ _)
   | (with_reducible exact LeO.refl _)
   | (with_reducible exact LeO.none _)
   | (with_reducible refine LeO.ite ?_ ?_)
   | (with_reducible refine LeO.bind ?_ (fun _ => ?_))
   | exact impl_gain.mono _ _ _ _ _
   | exact impl_isValued.mono _ _ _ _
   | exact LeO.none _
   | refine LeO.ite ?_ ?_
   | refine LeO.bind ?_ (fun _ => ?_)
set_option maxHeartbeats 8000000 in
set_option maxRecDepth 100000 in
theorem impl_ExchangeGain.calls (k : Nat) (A0 : Option Addr) (c0 : Nat) (l0 : List (S42)) (A1 : Option Addr) (c1 : Nat) (l1 : List Int) (a2 : Int) (a3 : Int) (r1 : Int) (r2 : Bool) (w : World) (hr0 : Kd.C k42 w A0 l0.length l0) (hc0 : l0.length ≤ c0) (hr1 : Kd.C (Kd.int .i64) w A1 l1.length l1) (hc1 : l1.length ≤ c1) (h : impl_ExchangeGain.f k l0 l1 a2 a3 = some (r1, r2)) :
  Calls Try.prog 11 #[.slice A0 l0.length c0, .slice A1 l1.length c1, .int .i64 a2, .int .i64 a3] w fun e w' => e = .returned (.tuple #[.int .i64 r1, .bool r2]) ∧ Below w.heap.size w w' := by
 have HR0 := Aside0.mk hr0
 have HC0 := Aside0.mk hc0
 clear hr0 hc0
 have HR1 := Aside0.mk hr1
 have HC1 := Aside0.mk hc1
 clear hr1 hc1
 have HB := Aside0.mk (Below.refl w.heap.size w)
 have H : ((impl_isValued.f k l0 l1 a3).bind fun t447 => (if t447 = true then ((impl_within.f a2 0 (wrap64 ((l1.length : Int) - 2))).bind fun t448 => (if t448 = true then ((impl_gain.f k l0 l1 a2 a3).bind fun t449 => (some (t449, true))) else (some (0, false)))) else (some (0, false)))) = some (r1, r2) := h
 clear h
 replace H := Option.bind_eq_some_iff.mp H
 obtain ⟨t447, A50, H⟩ := H
 replace H : (if t447 = true then ((impl_within.f a2 0 (wrap64 ((l1.length : Int) - 2))).bind fun t448 => (if t448 = true then ((impl_gain.f k l0 l1 a2 a3).bind fun t449 => (some (t449, true))) else (some (0, false)))) else (some (0, false))) = some (r1, r2) := H
 have A5 := Aside0.mk A50
 clear A50
 by_cases c6 : t447 = true
 rotate_left
 ·replace c6 := Bool.eq_false_iff.mpr c6
  subst c6
  have H1 : (some (0, false)) = some (r1, r2) := by rw [if_neg (show ¬ (false = true) by decide)] at H; exact H
  clear H
  have H := H1
  clear H1
  simp only [Option.some.injEq, Prod.mk.injEq] at H
  obtain ⟨rfl, rfl⟩ := H
  go_enter Try.func11, Try.ntmps11
  go_wp2_with (first | ((with_reducible refine gate_callee (f := 24) rfl ?_); refine goesL_ (some 13) rfl rfl Try.func24 (by kernel_rfl) rfl #[.slice A0 l0.length c0, .slice A1 l1.length c1, .int .i64 a3] rfl (by (try simp only [mA_]); first | done | rfl | (simp only [List.length_drop, List.length_take]; rfl)) ?_; (with_reducible refine (impl_isValued.calls k _ _ l0 _ _ l1 a3 false _ ?side1 ?side2 ?side3 ?side4 A5.out).mono ?_); (case side1 => repeat (first | exact HR0.out | (with_reducible refine Kd.C_alloc ?_ _) | (with_reducible refine Kd.C_drewN ?_ _) | (with_reducible refine Kd.C_drew ?_))); (case side2 => exact HC0.out); (case side3 => repeat (first | exact HR1.out | (with_reducible refine Kd.C_alloc ?_ _) | (with_reducible refine Kd.C_drewN ?_ _) | (with_reducible refine Kd.C_drew ?_))); (case side4 => exact HC1.out); rintro e w13 ⟨rfl, hb⟩; refine ⟨_, rfl, ?_⟩; have n0_ := Aside0.mk (below_step (bw HB.out) hb); replace HB := n0_; clear n0_; (try clear hb); (try clear hb2); (try clear hk); (try clear hi)))
  go_ret2
  exact ⟨by first | rfl | (simp [errW_none, errW_some] <;> rfl) | (simp [*, errW_none, errW_some] <;> rfl), bw HB.out⟩
 subst c6
 have H1 : ((impl_within.f a2 0 (wrap64 ((l1.length : Int) - 2))).bind fun t448 => (if t448 = true then ((impl_gain.f k l0 l1 a2 a3).bind fun t449 => (some (t449, true))) else (some (0, false)))) = some (r1, r2) := by rw [if_pos rfl] at H; exact H
 clear H
 have H := H1
 clear H1
 replace H := Option.bind_eq_some_iff.mp H
 obtain ⟨t448, A70, H⟩ := H
 replace H : (if t448 = true then ((impl_gain.f k l0 l1 a2 a3).bind fun t449 => (some (t449, true))) else (some (0, false))) = some (r1, r2) := H
 have A7 := Aside0.mk A70
 clear A70
 by_cases c8 : t448 = true
 rotate_left
 ·replace c8 := Bool.eq_false_iff.mpr c8
  subst c8
  have H1 : (some (0, false)) = some (r1, r2) := by rw [if_neg (show ¬ (false = true) by decide)] at H; exact H
  clear H
  have H := H1
  clear H1
  simp only [Option.some.injEq, Prod.mk.injEq] at H
  obtain ⟨rfl, rfl⟩ := H
  go_enter Try.func11, Try.ntmps11
  go_wp2_with (first | ((with_reducible refine gate_callee (f := 24) rfl ?_); refine goesL_ (some 13) rfl rfl Try.func24 (by kernel_rfl) rfl #[.slice A0 l0.length c0, .slice A1 l1.length c1, .int .i64 a3] rfl (by (try simp only [mA_]); first | done | rfl | (simp only [List.length_drop, List.length_take]; rfl)) ?_; (with_reducible refine (impl_isValued.calls k _ _ l0 _ _ l1 a3 true _ ?side1 ?side2 ?side3 ?side4 A5.out).mono ?_); (case side1 => repeat (first | exact HR0.out | (with_reducible refine Kd.C_alloc ?_ _) | (with_reducible refine Kd.C_drewN ?_ _) | (with_reducible refine Kd.C_drew ?_))); (case side2 => exact HC0.out); (case side3 => repeat (first | exact HR1.out | (with_reducible refine Kd.C_alloc ?_ _) | (with_reducible refine Kd.C_drewN ?_ _) | (with_reducible refine Kd.C_drew ?_))); (case side4 => exact HC1.out); rintro e w12 ⟨rfl, hb⟩; refine ⟨_, rfl, ?_⟩; have n0_ := Aside0.mk (below_step (bw HB.out) hb); replace HB := n0_; clear n0_; (try clear hb); (try clear hb2); (try clear hk); (try clear hi)) | (go_at_call 25; (with_reducible refine (impl_within.calls a2 0 (wrap64 ((l1.length : Int) - 2)) false _ A7.out).mono ?_); rintro e w' ⟨rfl, ⟨nd, rfl⟩⟩))
  go_ret2
  exact ⟨by first | rfl | (simp [errW_none, errW_some] <;> rfl) | (simp [*, errW_none, errW_some] <;> rfl), bw HB.out⟩
 subst c8
 have H1 : ((impl_gain.f k l0 l1 a2 a3).bind fun t449 => (some (t449, true))) = some (r1, r2) := by rw [if_pos rfl] at H; exact H
 clear H
 have H := H1
 clear H1
 replace H := Option.bind_eq_some_iff.mp H
 obtain ⟨t449, A90, H⟩ := H
 replace H : (some (t449, true)) = some (r1, r2) := H
 have A9 := Aside0.mk A90
 clear A90
 simp only [Option.some.injEq, Prod.mk.injEq] at H
 obtain ⟨rfl, rfl⟩ := H
 go_enter Try.func11, Try.ntmps11
 go_wp2_with (first | ((with_reducible refine gate_callee (f := 24) rfl ?_); refine goesL_ (some 13) rfl rfl Try.func24 (by kernel_rfl) rfl #[.slice A0 l0.length c0, .slice A1 l1.length c1, .int .i64 a3] rfl (by (try simp only [mA_]); first | done | rfl | (simp only [List.length_drop, List.length_take]; rfl)) ?_; (with_reducible refine (impl_isValued.calls k _ _ l0 _ _ l1 a3 true _ ?side1 ?side2 ?side3 ?side4 A5.out).mono ?_); (case side1 => repeat (first | exact HR0.out | (with_reducible refine Kd.C_alloc ?_ _) | (with_reducible refine Kd.C_drewN ?_ _) | (with_reducible refine Kd.C_drew ?_))); (case side2 => exact HC0.out); (case side3 => repeat (first | exact HR1.out | (with_reducible refine Kd.C_alloc ?_ _) | (with_reducible refine Kd.C_drewN ?_ _) | (with_reducible refine Kd.C_drew ?_))); (case side4 => exact HC1.out); rintro e w10 ⟨rfl, hb⟩; refine ⟨_, rfl, ?_⟩; have n0_ := Aside0.mk (below_step (bw HB.out) hb); replace HB := n0_; clear n0_; (try clear hb); (try clear hb2); (try clear hk); (try clear hi)) | (go_at_call 25; (with_reducible refine (impl_within.calls a2 0 (wrap64 ((l1.length : Int) - 2)) true _ A7.out).mono ?_); rintro e w' ⟨rfl, ⟨nd, rfl⟩⟩) | ((with_reducible refine gate_callee (f := 26) rfl ?_); refine goesL_ (some 27) rfl rfl Try.func26 (by kernel_rfl) rfl #[.slice A0 l0.length c0, .slice A1 l1.length c1, .int .i64 a2, .int .i64 a3] rfl (by (try simp only [mA_]); first | done | rfl | (simp only [List.length_drop, List.length_take]; rfl)) ?_; (with_reducible refine (impl_gain.calls k _ _ l0 _ _ l1 a2 a3 t449 _ ?side1 ?side2 ?side3 ?side4 A9.out).mono ?_); (case side1 => repeat (first | exact (Kd.C_below HR0.out (bw HB.out)) | (with_reducible refine Kd.C_alloc ?_ _) | (with_reducible refine Kd.C_drewN ?_ _) | (with_reducible refine Kd.C_drew ?_))); (case side2 => exact HC0.out); (case side3 => repeat (first | exact (Kd.C_below HR1.out (bw HB.out)) | (with_reducible refine Kd.C_alloc ?_ _) | (with_reducible refine Kd.C_drewN ?_ _) | (with_reducible refine Kd.C_drew ?_))); (case side4 => exact HC1.out); rintro e w11 ⟨rfl, hb⟩; refine ⟨_, rfl, ?_⟩; have n0_ := Aside0.mk (below_step (bw HB.out) hb); replace HB := n0_; clear n0_; (try clear hb); (try clear hb2); (try clear hk); (try clear hi)))
 go_ret2
 exact ⟨by first | rfl | (simp [errW_none, errW_some] <;> rfl) | (simp [*, errW_none, errW_some] <;> rfl), bw HB.out⟩

/-! ### impl_IsRuledOrder: function 12 -/
abbrev q12_0 : Array Bool := ⟨rl_ [18] false⟩
abbrev q12_11 : Array Bool := ⟨rl_ [5, 2, 5, 3, 1, 2] true⟩
abbrev q12_13 : Array Bool := ⟨rl_ [12, 3, 1, 2] true⟩
abbrev q12_14 : Array Bool := ⟨rl_ [13, 2, 1, 2] true⟩
abbrev q12_16 : Array Bool := ⟨rl_ [16, 2] true⟩
abbrev q12_17 : Array Bool := ⟨rl_ [17, 1] true⟩
def impl_IsRuledOrder.l0 : Nat → List (S42) → List Int → Int → Int → Option (Bool × Bool)
 | 0, _, _, _, _ => none
 | k + 1, x0, x1, x2, x8 => if x8 < (x1.length : Int) then (if 0 ≤ x8 then (if 0 ≤ (rd x1 x8) then (if (rd x1 x8) < (x0.length : Int) then (if 0 ≤ (wrap64 (x8 - 1)) then (if (wrap64 (x8 - 1)) < (x1.length : Int) then (if 0 ≤ (rd x1 (wrap64 (x8 - 1))) then (if (rd x1 (wrap64 (x8 - 1))) < (x0.length : Int) then ((impl_difference.f ((rd_T42 x0 (rd x1 x8)).f0) ((rd_T42 x0 (rd x1 x8)).f1) ((rd_T42 x0 (rd x1 x8)).f2) ((rd_T42 x0 (rd x1 x8)).f3) ((rd_T42 x0 (rd x1 (wrap64 (x8 - 1)))).f0) ((rd_T42 x0 (rd x1 (wrap64 (x8 - 1)))).f1) ((rd_T42 x0 (rd x1 (wrap64 (x8 - 1)))).f2) ((rd_T42 x0 (rd x1 (wrap64 (x8 - 1)))).f3) x2).bind fun t455 => (if t455 < 0 then (some (false, true)) else (impl_IsRuledOrder.l0 k x0 x1 x2 (wrap64 (x8 + 1))))) else (none)) else (none)) else (none)) else (none)) else (none)) else (none)) else (none)) else (some (true, true))
def impl_IsRuledOrder.f (k : Nat) (l0 : List (S42)) (l1 : List Int) (a2 : Int) : Option (Bool × Bool) := (impl_isRuledAndOrdered.f k l0 l1 a2).bind fun t450 => (if t450 = true then (impl_IsRuledOrder.l0 k l0 l1 a2 1) else (some (false, false)))
theorem impl_IsRuledOrder.mono_l : ∀ k, (∀ y0 y1 y2 y3, LeO (impl_IsRuledOrder.l0 k y0 y1 y2 y3) (impl_IsRuledOrder.l0 (k + 1) y0 y1 y2 y3))
 | 0 => fun _ _ _ _ r h => by simp [impl_IsRuledOrder.l0] at h
 | k + 1 => by
  have ih0 := impl_IsRuledOrder.mono_l k
  ·intro y0 y1 y2 y3
   unfold impl_IsRuledOrder.l0
   repeat' first
   | (with_reducible exact ih0 _ _ _ _)
   | (with_reducible exact impl_isRuledAndOrdered.mono _ _ _ _)
   | (with_reducible exact LeO.refl _)
   | (with_reducible exact LeO.none _)
   | (with_reducible refine LeO.ite ?_ ?_)
   | (with_reducible refine LeO.bind ?_ (fun _ => ?_))
   | exact ih0 _ _ _ _
   | exact impl_isRuledAndOrdered.mono _ _ _ _
   | exact LeO.none _
   | refine LeO.ite ?_ ?_
   | refine LeO.bind ?_ (fun _ => ?_)
theorem impl_IsRuledOrder.mono : ∀ a0 a1 a2 k, LeO (impl_IsRuledOrder.f k a0 a1 a2) (impl_IsRuledOrder.f (k + 1) a0 a1 a2) := by
 intro a0 a1 a2 k
 have ih0 := impl_IsRuledOrder.mono_l k
 unfold impl_IsRuledOrder.f
 repeat' first
   | (with_reducible exact ih0 _ _ _ _)
   | (with_reducible exact impl_isRuledAndOrdered.mono _ _ _ _)
   | (with_reducible exact LeO.refl _)
   | (with_reducible exact LeO.none _)
   | (with_reducible refine LeO.ite ?_ ?_)
   | (with_reducible refine LeO.bind ?_ (fun _ => ?_))
   | exact ih0 _ _ _ _
   | exact impl_isRuledAndOrdered.mono _ _ _ _
   | exact LeO.none _
   | refine LeO.ite ?_ ?_
   | refine LeO.bind ?_ (fun _ => ?_)
def impl_IsRuledOrder.T6 : Bool × List (List Nat × List Nat) := (true, [([], []), ([], []), ([], []), ([1, 2], [1, 2]), ([3], [3]), ([0, 4], [0, 4]), ([5], [5]), ([], []), ([], []), ([], []), ([9], [9]), ([8, 10], [8, 10]), ([11], [11]), ([7, 12], [7, 12]), ([13], [13]), ([], []), ([6, 14, 15], [6, 14, 15]), ([16], [16])])
def impl_IsRuledOrder.B6 : List Nat := [0, 0, 0, 6, 14, 31, 63, 0, 0, 0, 512, 1792, 3840, 8064, 16256, 0, 65535, 131071]
theorem impl_IsRuledOrder.tab6 : rtab .any (opsOf Try.f12 6) = impl_IsRuledOrder.T6 := by kernel_rfl
theorem impl_IsRuledOrder.bits6 : waitsOk impl_IsRuledOrder.T6.2 impl_IsRuledOrder.B6 = true := by kernel_rfl
set_option maxHeartbeats 8000000 in
set_option maxRecDepth 100000 in
theorem impl_IsRuledOrder.calls (k : Nat) (A0 : Option Addr) (c0 : Nat) (l0 : List (S42)) (A1 : Option Addr) (c1 : Nat) (l1 : List Int) (a2 : Int) (r1 : Bool) (r2 : Bool) (w : World) (hr0 : Kd.C k42 w A0 l0.length l0) (hc0 : l0.length ≤ c0) (hr1 : Kd.C (Kd.int .i64) w A1 l1.length l1) (hc1 : l1.length ≤ c1) (h : impl_IsRuledOrder.f k l0 l1 a2 = some (r1, r2)) :
  Calls Try.prog 12 #[.slice A0 l0.length c0, .slice A1 l1.length c1, .int .i64 a2] w fun e w' => e = .returned (.tuple #[.bool r1, .bool r2]) ∧ Below w.heap.size w w' := by
 have hu42 := Try.underlying42
 have HR0 := Aside0.mk hr0
 have HC0 := Aside0.mk hc0
 clear hr0 hc0
 have HR1 := Aside0.mk hr1
 have HC1 := Aside0.mk hc1
 clear hr1 hc1
 have HB := Aside0.mk (Below.refl w.heap.size w)
 have H : ((impl_isRuledAndOrdered.f k l0 l1 a2).bind fun t450 => (if t450 = true then (impl_IsRuledOrder.l0 k l0 l1 a2 1) else (some (false, false)))) = some (r1, r2) := h
 clear h
 replace H := Option.bind_eq_some_iff.mp H
 obtain ⟨t450, A40, H⟩ := H
 replace H : (if t450 = true then (impl_IsRuledOrder.l0 k l0 l1 a2 1) else (some (false, false))) = some (r1, r2) := H
 have A4 := Aside0.mk A40
 clear A40
 by_cases c5 : t450 = true
 rotate_left
 ·replace c5 := Bool.eq_false_iff.mpr c5
  subst c5
  have H1 : (some (false, false)) = some (r1, r2) := by rw [if_neg (show ¬ (false = true) by decide)] at H; exact H
  clear H
  have H := H1
  clear H1
  simp only [Option.some.injEq, Prod.mk.injEq] at H
  obtain ⟨rfl, rfl⟩ := H
  go_enter Try.func12, Try.ntmps12
  go_wp2_with (first | ((with_reducible refine gate_callee (f := 15) rfl ?_); refine goesL_ (some 12) rfl rfl Try.func15 (by kernel_rfl) rfl #[.slice A0 l0.length c0, .slice A1 l1.length c1, .int .i64 a2] rfl (by (try simp only [mA_]); first | done | rfl | (simp only [List.length_drop, List.length_take]; rfl)) ?_; (with_reducible refine (impl_isRuledAndOrdered.calls k _ _ l0 _ _ l1 a2 false _ ?side1 ?side2 ?side3 ?side4 A4.out).mono ?_); (case side1 => repeat (first | exact HR0.out | (with_reducible refine Kd.C_alloc ?_ _) | (with_reducible refine Kd.C_drewN ?_ _) | (with_reducible refine Kd.C_drew ?_))); (case side2 => exact HC0.out); (case side3 => repeat (first | exact HR1.out | (with_reducible refine Kd.C_alloc ?_ _) | (with_reducible refine Kd.C_drewN ?_ _) | (with_reducible refine Kd.C_drew ?_))); (case side4 => exact HC1.out); rintro e w22 ⟨rfl, hb⟩; refine ⟨_, rfl, ?_⟩; have n0_ := Aside0.mk (below_step (bw HB.out) hb); replace HB := n0_; clear n0_; (try clear hb); (try clear hb2); (try clear hk); (try clear hi)))
  go_ret2
  exact ⟨by first | rfl | (simp [errW_none, errW_some] <;> rfl) | (simp [*, errW_none, errW_some] <;> rfl), bw HB.out⟩
 subst c5
 have H1 : (impl_IsRuledOrder.l0 k l0 l1 a2 1) = some (r1, r2) := by rw [if_pos rfl] at H; exact H
 clear H
 have H := H1
 clear H1
 have H' := Aside0.mk H
 clear H
 go_enter Try.func12, Try.ntmps12
 go_wp2_with (first | ((with_reducible refine gate_callee (f := 15) rfl ?_); refine goesL_ (some 12) rfl rfl Try.func15 (by kernel_rfl) rfl #[.slice A0 l0.length c0, .slice A1 l1.length c1, .int .i64 a2] rfl (by (try simp only [mA_]); first | done | rfl | (simp only [List.length_drop, List.length_take]; rfl)) ?_; (with_reducible refine (impl_isRuledAndOrdered.calls k _ _ l0 _ _ l1 a2 true _ ?side1 ?side2 ?side3 ?side4 A4.out).mono ?_); (case side1 => repeat (first | exact HR0.out | (with_reducible refine Kd.C_alloc ?_ _) | (with_reducible refine Kd.C_drewN ?_ _) | (with_reducible refine Kd.C_drew ?_))); (case side2 => exact HC0.out); (case side3 => repeat (first | exact HR1.out | (with_reducible refine Kd.C_alloc ?_ _) | (with_reducible refine Kd.C_drewN ?_ _) | (with_reducible refine Kd.C_drew ?_))); (case side4 => exact HC1.out); rintro e w6 ⟨rfl, hb⟩; refine ⟨_, rfl, ?_⟩; have n0_ := Aside0.mk (below_step (bw HB.out) hb); replace HB := n0_; clear n0_; (try clear hb); (try clear hb2); (try clear hk); (try clear hi)))
 go_loopg [8] k (fun kq v8 w' => ∃ (x8_1 : Int), v8 = .int .i64 x8_1 ∧ Aside0 (impl_IsRuledOrder.l0 kq l0 l1 a2 x8_1 = some (r1, r2)) ∧ Aside0 (kq ≤ k) ∧ Aside0 (Below w.heap.size w w'))
 case atStart => exact ⟨(1), (by first | rfl | (simp; done) | (simp [*]; done)), H', ⟨Nat.le_refl _⟩, ⟨bw HB.out⟩⟩
 case round =>
  clear H'
  try clear c1
  try clear p2
  try clear c5
  obtain ⟨x8_1, rfl, HA, HK1, HB⟩ := hrel
  cases gk with
  | zero => exact absurd HA.out (by simp [impl_IsRuledOrder.l0])
  | succ k1 =>
   have H := HA.out
   clear HA
   simp only [impl_IsRuledOrder.l0] at H
   by_cases c7 : x8_1 < (l1.length : Int)
   rotate_left
   ·rw [if_neg c7] at H
    have c7b0 : decide (x8_1 < (l1.length : Int)) = false := decide_eq_false c7
    clear c7
    simp only [Option.some.injEq, Prod.mk.injEq] at H
    obtain ⟨rfl, rfl⟩ := H
    go_wp2
    go_ret2
    exact ⟨by first | rfl | (simp [errW_none, errW_some] <;> rfl) | (simp [*, errW_none, errW_some] <;> rfl), bw HB.out⟩
   rw [if_pos c7] at H
   have c7b0 : decide (x8_1 < (l1.length : Int)) = true := decide_eq_true c7
   clear c7
   by_cases c8 : 0 ≤ x8_1
   rotate_left
   ·rw [if_neg c8] at H
    exact absurd H (by simp)
   rw [if_pos c8] at H
   have c8b0 : decide (0 ≤ x8_1) = true := decide_eq_true c8
   clear c8
   by_cases c9 : 0 ≤ (rd l1 x8_1)
   rotate_left
   ·rw [if_neg c9] at H
    exact absurd H (by simp)
   rw [if_pos c9] at H
   have c9b0 : decide (0 ≤ (rd l1 x8_1)) = true := decide_eq_true c9
   clear c9
   by_cases c10 : (rd l1 x8_1) < (l0.length : Int)
   rotate_left
   ·rw [if_neg c10] at H
    exact absurd H (by simp)
   rw [if_pos c10] at H
   have c10b0 : decide ((rd l1 x8_1) < (l0.length : Int)) = true := decide_eq_true c10
   clear c10
   obtain ⟨ji11, hji11⟩ : ∃ j_ : Int, (wrap64 (x8_1 - 1)) = j_ := ⟨_, rfl⟩
   replace H : (if 0 ≤ (ji11) then (if (ji11) < (l1.length : Int) then (if 0 ≤ (rd l1 (ji11)) then (if (rd l1 (ji11)) < (l0.length : Int) then ((impl_difference.f ((rd_T42 l0 (rd l1 x8_1)).f0) ((rd_T42 l0 (rd l1 x8_1)).f1) ((rd_T42 l0 (rd l1 x8_1)).f2) ((rd_T42 l0 (rd l1 x8_1)).f3) ((rd_T42 l0 (rd l1 (ji11))).f0) ((rd_T42 l0 (rd l1 (ji11))).f1) ((rd_T42 l0 (rd l1 (ji11))).f2) ((rd_T42 l0 (rd l1 (ji11))).f3) a2).bind fun t455 => (if t455 < 0 then (some (false, true)) else (impl_IsRuledOrder.l0 k1 l0 l1 a2 (wrap64 (x8_1 + 1))))) else (none)) else (none)) else (none)) else (none)) = some (r1, r2) := by first | (rw [hji11] at H; exact H) | (simp only [hji11] at H ⊢; exact H)
   have hji11w : (IntKind.i64.wrap (x8_1 - 1)) = ji11 := (i64_w _).trans hji11
   by_cases c12 : 0 ≤ (ji11)
   rotate_left
   ·rw [if_neg c12] at H
    exact absurd H (by simp)
   rw [if_pos c12] at H
   have c12b0 : decide (0 ≤ (ji11)) = true := decide_eq_true c12
   clear c12
   by_cases c13 : (ji11) < (l1.length : Int)
   rotate_left
   ·rw [if_neg c13] at H
    exact absurd H (by simp)
   rw [if_pos c13] at H
   have c13b0 : decide ((ji11) < (l1.length : Int)) = true := decide_eq_true c13
   clear c13
   by_cases c14 : 0 ≤ (rd l1 (ji11))
   rotate_left
   ·rw [if_neg c14] at H
    exact absurd H (by simp)
   rw [if_pos c14] at H
   have c14b0 : decide (0 ≤ (rd l1 (ji11))) = true := decide_eq_true c14
   clear c14
   by_cases c15 : (rd l1 (ji11)) < (l0.length : Int)
   rotate_left
   ·rw [if_neg c15] at H
    exact absurd H (by simp)
   rw [if_pos c15] at H
   have c15b0 : decide ((rd l1 (ji11)) < (l0.length : Int)) = true := decide_eq_true c15
   clear c15
   replace H := Option.bind_eq_some_iff.mp H
   obtain ⟨t455, A160, H⟩ := H
   replace H : (if t455 < 0 then (some (false, true)) else (impl_IsRuledOrder.l0 k1 l0 l1 a2 (wrap64 (x8_1 + 1)))) = some (r1, r2) := H
   have A16 := Aside0.mk A160
   clear A160
   by_cases c17 : t455 < 0
   rotate_left
   ·rw [if_neg c17] at H
    have c17b0 : decide (t455 < 0) = false := decide_eq_false c17
    clear c17
    have H' := Aside0.mk H
    clear H
    try go_wp2
    have n0_ := Aside0.mk (below_drew1 HB.out)
    replace HB := n0_
    clear n0_
    have p451 : 0 ≤ (x8_1 : Int) := of_decide_eq_true (by first | (with_reducible assumption) | assumption)
    have q451 : x8_1 < (l1.length : Int) := of_decide_eq_true (by first | (with_reducible assumption) | assumption)
    obtain ⟨ad451, e451, hx451_0⟩ := Kd.at_int HR1.out x8_1 p451 q451
    have hw451_0 := hx451_0
    cases e451
    replace hx451_0 := (HB.out.cell (World.block_lt_of_cell? w _ hx451_0)).trans hx451_0
    replace p451 := eq_true p451
    replace q451 := eq_true q451
    have p452 : 0 ≤ ((rd l1 x8_1) : Int) := of_decide_eq_true (by first | (with_reducible assumption) | assumption)
    have q452 : (rd l1 x8_1) < (l0.length : Int) := of_decide_eq_true (by first | (with_reducible assumption) | assumption)
    obtain ⟨ad452, e452, hx452_0, hx452_1, hx452_2, hx452_3⟩ := at_T42 HR0.out (rd l1 x8_1) p452 q452
    have hw452_3 := hx452_3
    have hw452_2 := hx452_2
    have hw452_1 := hx452_1
    have hw452_0 := hx452_0
    cases e452
    replace hx452_0 := (HB.out.cell (World.block_lt_of_cell? w _ hx452_0)).trans hx452_0
    replace hx452_1 := (HB.out.cell (World.block_lt_of_cell? w _ hx452_1)).trans hx452_1
    replace hx452_2 := (HB.out.cell (World.block_lt_of_cell? w _ hx452_2)).trans hx452_2
    replace hx452_3 := (HB.out.cell (World.block_lt_of_cell? w _ hx452_3)).trans hx452_3
    replace p452 := eq_true p452
    replace q452 := eq_true q452
    have p453 : 0 ≤ ((ji11) : Int) := of_decide_eq_true (by first | (with_reducible assumption) | assumption)
    have q453 : (ji11) < (l1.length : Int) := of_decide_eq_true (by first | (with_reducible assumption) | assumption)
    obtain ⟨ad453, e453, hx453_0⟩ := Kd.at_int HR1.out (ji11) p453 q453
    have hw453_0 := hx453_0
    obtain rfl : ad451 = ad453 := (by injection e453)
    replace hx453_0 := (HB.out.cell (World.block_lt_of_cell? w _ hx453_0)).trans hx453_0
    replace p453 := eq_true p453
    replace q453 := eq_true q453
    have p454 : 0 ≤ ((rd l1 (ji11)) : Int) := of_decide_eq_true (by first | (with_reducible assumption) | assumption)
    have q454 : (rd l1 (ji11)) < (l0.length : Int) := of_decide_eq_true (by first | (with_reducible assumption) | assumption)
    obtain ⟨ad454, e454, hx454_0, hx454_1, hx454_2, hx454_3⟩ := at_T42 HR0.out (rd l1 (ji11)) p454 q454
    have hw454_3 := hx454_3
    have hw454_2 := hx454_2
    have hw454_1 := hx454_1
    have hw454_0 := hx454_0
    obtain rfl : ad452 = ad454 := (by injection e454)
    replace hx454_0 := (HB.out.cell (World.block_lt_of_cell? w _ hx454_0)).trans hx454_0
    replace hx454_1 := (HB.out.cell (World.block_lt_of_cell? w _ hx454_1)).trans hx454_1
    replace hx454_2 := (HB.out.cell (World.block_lt_of_cell? w _ hx454_2)).trans hx454_2
    replace hx454_3 := (HB.out.cell (World.block_lt_of_cell? w _ hx454_3)).trans hx454_3
    replace p454 := eq_true p454
    replace q454 := eq_true q454
    refine start_ (n := 18) (S := fun w' => w'.cell? (ad451.add (x8_1).toNat) = some (.int .i64 (rd l1 x8_1)) ∧ w'.cell? (ad452.add (((rd l1 x8_1)).toNat * 4)) = some (.int .i64 ((rd_T42 l0 (rd l1 x8_1)).f0)) ∧ w'.cell? ⟨(ad452.add (((rd l1 x8_1)).toNat * 4)).block, (ad452.add (((rd l1 x8_1)).toNat * 4)).off + 1, none⟩ = some (.int .i64 ((rd_T42 l0 (rd l1 x8_1)).f1)) ∧ w'.cell? ⟨(ad452.add (((rd l1 x8_1)).toNat * 4)).block, (ad452.add (((rd l1 x8_1)).toNat * 4)).off + 2, none⟩ = some (.int .i64 ((rd_T42 l0 (rd l1 x8_1)).f2)) ∧ w'.cell? ⟨(ad452.add (((rd l1 x8_1)).toNat * 4)).block, (ad452.add (((rd l1 x8_1)).toNat * 4)).off + 3, none⟩ = some (.int .i64 ((rd_T42 l0 (rd l1 x8_1)).f3)) ∧ w'.cell? (ad451.add ((ji11)).toNat) = some (.int .i64 (rd l1 (ji11))) ∧ w'.cell? (ad452.add (((rd l1 (ji11))).toNat * 4)) = some (.int .i64 ((rd_T42 l0 (rd l1 (ji11))).f0)) ∧ w'.cell? ⟨(ad452.add (((rd l1 (ji11))).toNat * 4)).block, (ad452.add (((rd l1 (ji11))).toNat * 4)).off + 1, none⟩ = some (.int .i64 ((rd_T42 l0 (rd l1 (ji11))).f1)) ∧ w'.cell? ⟨(ad452.add (((rd l1 (ji11))).toNat * 4)).block, (ad452.add (((rd l1 (ji11))).toNat * 4)).off + 2, none⟩ = some (.int .i64 ((rd_T42 l0 (rd l1 (ji11))).f2)) ∧ w'.cell? ⟨(ad452.add (((rd l1 (ji11))).toNat * 4)).block, (ad452.add (((rd l1 (ji11))).toNat * 4)).off + 3, none⟩ = some (.int .i64 ((rd_T42 l0 (rd l1 (ji11))).f3))) (ds := []) q12_0 (by kernel_rfl) rfl rfl ⟨(bcl_ HB.out hw451_0 :), (bcl_ HB.out hw452_0 :), (bcl_ HB.out hw452_1 :), (bcl_ HB.out hw452_2 :), (bcl_ HB.out hw452_3 :), (bcl_ HB.out hw453_0 :), (bcl_ HB.out hw454_0 :), (bcl_ HB.out hw454_1 :), (bcl_ HB.out hw454_2 :), (bcl_ HB.out hw454_3 :)⟩ (fun hHeld => ?_); refine with_tabW impl_IsRuledOrder.tab6 impl_IsRuledOrder.bits6 (fun HT_ HW_ => ?_)
    generalize wr.drew = w20 at HB hx451_0 hx452_0 hx452_1 hx452_2 hx452_3 hx453_0 hx454_0 hx454_1 hx454_2 hx454_3 hHeld ⊢
    refine pw_ HT_ 0 (some 20) ?_
    refine pw_ HT_ 1 (some 21) ?_
    refine pw_ HT_ 2 (some 22) ?_
    refine pw_ HT_ 3 (some 23) ?_
    refine pw_ HT_ 7 (some 27) ?_
    refine pw_ HT_ 8 (some 28) ?_
    refine pw_ HT_ 9 (some 29) ?_
    refine pw_ HT_ 10 (some 30) ?_
    refine pw_ HT_ 11 (some 31) ?_
    refine pw_ HT_ 15 (some 35) ?_
    refine take_ (i := 4) (N := some 24) (v := ?_) (a' := ?_) q12_11 rfl rfl (take_ofW HT_.out HW_.out (by kernel_rfl)) (fun _ _ _ h => h) (Or.inl ⟨by rfl, ?_⟩) hHeld ?_ ?_
    rotate_left
    ·rintro w' ⟨s0, s1, s2, s3, s4, s5, s6, s7, s8, s9⟩
     go_simp
     with_reducible rfl
    rotate_left
    ·simp only [aq_]
     rfl
    refine pw_ HT_ 5 (some 25) ?_
    refine take_ (i := 6) (N := some 26) (v := ?_) (a' := ?_) q12_13 rfl rfl (take_ofW HT_.out HW_.out (by kernel_rfl)) (fun _ _ _ h => h) (Or.inl ⟨by rfl, ?_⟩) hHeld ?_ ?_
    rotate_left
    ·rintro w' ⟨s0, s1, s2, s3, s4, s5, s6, s7, s8, s9⟩
     go_simp
     with_reducible rfl
    rotate_left
    ·simp only [aq_]
     rfl
    refine take_ (i := 12) (N := some 32) (v := ?_) (a' := ?_) q12_14 rfl rfl (take_ofW HT_.out HW_.out (by kernel_rfl)) (fun _ _ _ h => h) (Or.inl ⟨by rfl, ?_⟩) hHeld ?_ ?_
    rotate_left
    ·rintro w' ⟨s0, s1, s2, s3, s4, s5, s6, s7, s8, s9⟩
     go_simp
     with_reducible rfl
    rotate_left
    ·simp only [aq_]
     rfl
    refine pw_ HT_ 13 (some 33) ?_
    refine take_ (i := 14) (N := some 34) (v := ?_) (a' := ?_) q12_16 rfl rfl (take_ofW HT_.out HW_.out (by kernel_rfl)) (fun _ _ _ h => h) (Or.inl ⟨by rfl, ?_⟩) hHeld ?_ ?_
    rotate_left
    ·rintro w' ⟨s0, s1, s2, s3, s4, s5, s6, s7, s8, s9⟩
     go_simp
     with_reducible rfl
    rotate_left
    ·simp only [aq_]
     rfl
    refine one_ (i := 16) (N := some 36) q12_17 rfl rfl (one_of HT_.out (by kernel_rfl)) (by decide) (fun K hK => ?_)
    refine goes_ Try.func17 (by kernel_rfl) rfl #[.agg #[.int .i64 ((rd_T42 l0 (rd l1 x8_1)).f0), .int .i64 ((rd_T42 l0 (rd l1 x8_1)).f1), .int .i64 ((rd_T42 l0 (rd l1 x8_1)).f2), .int .i64 ((rd_T42 l0 (rd l1 x8_1)).f3)], .agg #[.int .i64 ((rd_T42 l0 (rd l1 (ji11))).f0), .int .i64 ((rd_T42 l0 (rd l1 (ji11))).f1), .int .i64 ((rd_T42 l0 (rd l1 (ji11))).f2), .int .i64 ((rd_T42 l0 (rd l1 (ji11))).f3)], .int .i64 a2] (by rfl) rfl rfl (by (try simp only [mA_]); first | done | (simp only [hji11]; rfl) | rfl | (simp only [List.length_drop, List.length_take]; rfl)) ?_
    with_reducible refine (impl_difference.calls ((rd_T42 l0 (rd l1 x8_1)).f0) ((rd_T42 l0 (rd l1 x8_1)).f1) ((rd_T42 l0 (rd l1 x8_1)).f2) ((rd_T42 l0 (rd l1 x8_1)).f3) ((rd_T42 l0 (rd l1 (ji11))).f0) ((rd_T42 l0 (rd l1 (ji11))).f1) ((rd_T42 l0 (rd l1 (ji11))).f2) ((rd_T42 l0 (rd l1 (ji11))).f3) a2 t455 _ A16.out).mono ?_
    rintro e w21 ⟨rfl, hb⟩
    refine ⟨_, rfl, ?_⟩
    have n0_ := Aside0.mk (below_step (bw HB.out) hb)
    replace HB := n0_
    clear n0_
    (try clear hb)
    (try clear hb2)
    (try clear hk)
    (try clear hi)
    refine hK.out _ _ ⟨(bcl_ HB.out hw451_0 :), (bcl_ HB.out hw452_0 :), (bcl_ HB.out hw452_1 :), (bcl_ HB.out hw452_2 :), (bcl_ HB.out hw452_3 :), (bcl_ HB.out hw453_0 :), (bcl_ HB.out hw454_0 :), (bcl_ HB.out hw454_1 :), (bcl_ HB.out hw454_2 :), (bcl_ HB.out hw454_3 :)⟩ (fun hHeld => ?_)
    clear hK K
    refine norm_ (a' := ?_) ?_ ?_
    rotate_left
    ·show Act.put _ (some 36) _ = _
     simp only [aq_]
     rfl
    refine pw_ HT_ 17 (some 37) ?_
    refine done_ (done_of HT_.out (by kernel_rfl)) ?_
    try go_wp2
    go_roundg k1
    case measure => have := HK1.out; omega
    case rel => exact ⟨(wrap64 (x8_1 + 1)), (by first | rfl | (simp; done) | (simp [*]; done)), H', ⟨by have := HK1.out; omega⟩, ⟨bw HB.out⟩⟩
   rw [if_pos c17] at H
   have c17b0 : decide (t455 < 0) = true := decide_eq_true c17
   clear c17
   simp only [Option.some.injEq, Prod.mk.injEq] at H
   obtain ⟨rfl, rfl⟩ := H
   try go_wp2
   have n0_ := Aside0.mk (below_drew1 HB.out)
   replace HB := n0_
   clear n0_
   have p451 : 0 ≤ (x8_1 : Int) := of_decide_eq_true (by first | (with_reducible assumption) | assumption)
   have q451 : x8_1 < (l1.length : Int) := of_decide_eq_true (by first | (with_reducible assumption) | assumption)
   obtain ⟨ad451, e451, hx451_0⟩ := Kd.at_int HR1.out x8_1 p451 q451
   have hw451_0 := hx451_0
   cases e451
   replace hx451_0 := (HB.out.cell (World.block_lt_of_cell? w _ hx451_0)).trans hx451_0
   replace p451 := eq_true p451
   replace q451 := eq_true q451
   have p452 : 0 ≤ ((rd l1 x8_1) : Int) := of_decide_eq_true (by first | (with_reducible assumption) | assumption)
   have q452 : (rd l1 x8_1) < (l0.length : Int) := of_decide_eq_true (by first | (with_reducible assumption) | assumption)
   obtain ⟨ad452, e452, hx452_0, hx452_1, hx452_2, hx452_3⟩ := at_T42 HR0.out (rd l1 x8_1) p452 q452
   have hw452_3 := hx452_3
   have hw452_2 := hx452_2
   have hw452_1 := hx452_1
   have hw452_0 := hx452_0
   cases e452
   replace hx452_0 := (HB.out.cell (World.block_lt_of_cell? w _ hx452_0)).trans hx452_0
   replace hx452_1 := (HB.out.cell (World.block_lt_of_cell? w _ hx452_1)).trans hx452_1
   replace hx452_2 := (HB.out.cell (World.block_lt_of_cell? w _ hx452_2)).trans hx452_2
   replace hx452_3 := (HB.out.cell (World.block_lt_of_cell? w _ hx452_3)).trans hx452_3
   replace p452 := eq_true p452
   replace q452 := eq_true q452
   have p453 : 0 ≤ ((ji11) : Int) := of_decide_eq_true (by first | (with_reducible assumption) | assumption)
   have q453 : (ji11) < (l1.length : Int) := of_decide_eq_true (by first | (with_reducible assumption) | assumption)
   obtain ⟨ad453, e453, hx453_0⟩ := Kd.at_int HR1.out (ji11) p453 q453
   have hw453_0 := hx453_0
   obtain rfl : ad451 = ad453 := (by injection e453)
   replace hx453_0 := (HB.out.cell (World.block_lt_of_cell? w _ hx453_0)).trans hx453_0
   replace p453 := eq_true p453
   replace q453 := eq_true q453
   have p454 : 0 ≤ ((rd l1 (ji11)) : Int) := of_decide_eq_true (by first | (with_reducible assumption) | assumption)
   have q454 : (rd l1 (ji11)) < (l0.length : Int) := of_decide_eq_true (by first | (with_reducible assumption) | assumption)
   obtain ⟨ad454, e454, hx454_0, hx454_1, hx454_2, hx454_3⟩ := at_T42 HR0.out (rd l1 (ji11)) p454 q454
   have hw454_3 := hx454_3
   have hw454_2 := hx454_2
   have hw454_1 := hx454_1
   have hw454_0 := hx454_0
   obtain rfl : ad452 = ad454 := (by injection e454)
   replace hx454_0 := (HB.out.cell (World.block_lt_of_cell? w _ hx454_0)).trans hx454_0
   replace hx454_1 := (HB.out.cell (World.block_lt_of_cell? w _ hx454_1)).trans hx454_1
   replace hx454_2 := (HB.out.cell (World.block_lt_of_cell? w _ hx454_2)).trans hx454_2
   replace hx454_3 := (HB.out.cell (World.block_lt_of_cell? w _ hx454_3)).trans hx454_3
   replace p454 := eq_true p454
   replace q454 := eq_true q454
   refine start_ (n := 18) (S := fun w' => w'.cell? (ad451.add (x8_1).toNat) = some (.int .i64 (rd l1 x8_1)) ∧ w'.cell? (ad452.add (((rd l1 x8_1)).toNat * 4)) = some (.int .i64 ((rd_T42 l0 (rd l1 x8_1)).f0)) ∧ w'.cell? ⟨(ad452.add (((rd l1 x8_1)).toNat * 4)).block, (ad452.add (((rd l1 x8_1)).toNat * 4)).off + 1, none⟩ = some (.int .i64 ((rd_T42 l0 (rd l1 x8_1)).f1)) ∧ w'.cell? ⟨(ad452.add (((rd l1 x8_1)).toNat * 4)).block, (ad452.add (((rd l1 x8_1)).toNat * 4)).off + 2, none⟩ = some (.int .i64 ((rd_T42 l0 (rd l1 x8_1)).f2)) ∧ w'.cell? ⟨(ad452.add (((rd l1 x8_1)).toNat * 4)).block, (ad452.add (((rd l1 x8_1)).toNat * 4)).off + 3, none⟩ = some (.int .i64 ((rd_T42 l0 (rd l1 x8_1)).f3)) ∧ w'.cell? (ad451.add ((ji11)).toNat) = some (.int .i64 (rd l1 (ji11))) ∧ w'.cell? (ad452.add (((rd l1 (ji11))).toNat * 4)) = some (.int .i64 ((rd_T42 l0 (rd l1 (ji11))).f0)) ∧ w'.cell? ⟨(ad452.add (((rd l1 (ji11))).toNat * 4)).block, (ad452.add (((rd l1 (ji11))).toNat * 4)).off + 1, none⟩ = some (.int .i64 ((rd_T42 l0 (rd l1 (ji11))).f1)) ∧ w'.cell? ⟨(ad452.add (((rd l1 (ji11))).toNat * 4)).block, (ad452.add (((rd l1 (ji11))).toNat * 4)).off + 2, none⟩ = some (.int .i64 ((rd_T42 l0 (rd l1 (ji11))).f2)) ∧ w'.cell? ⟨(ad452.add (((rd l1 (ji11))).toNat * 4)).block, (ad452.add (((rd l1 (ji11))).toNat * 4)).off + 3, none⟩ = some (.int .i64 ((rd_T42 l0 (rd l1 (ji11))).f3))) (ds := []) q12_0 (by kernel_rfl) rfl rfl ⟨(bcl_ HB.out hw451_0 :), (bcl_ HB.out hw452_0 :), (bcl_ HB.out hw452_1 :), (bcl_ HB.out hw452_2 :), (bcl_ HB.out hw452_3 :), (bcl_ HB.out hw453_0 :), (bcl_ HB.out hw454_0 :), (bcl_ HB.out hw454_1 :), (bcl_ HB.out hw454_2 :), (bcl_ HB.out hw454_3 :)⟩ (fun hHeld => ?_); refine with_tabW impl_IsRuledOrder.tab6 impl_IsRuledOrder.bits6 (fun HT_ HW_ => ?_)
   generalize wr.drew = w18 at HB hx451_0 hx452_0 hx452_1 hx452_2 hx452_3 hx453_0 hx454_0 hx454_1 hx454_2 hx454_3 hHeld ⊢
   refine pw_ HT_ 0 (some 20) ?_
   refine pw_ HT_ 1 (some 21) ?_
   refine pw_ HT_ 2 (some 22) ?_
   refine pw_ HT_ 3 (some 23) ?_
   refine pw_ HT_ 7 (some 27) ?_
   refine pw_ HT_ 8 (some 28) ?_
   refine pw_ HT_ 9 (some 29) ?_
   refine pw_ HT_ 10 (some 30) ?_
   refine pw_ HT_ 11 (some 31) ?_
   refine pw_ HT_ 15 (some 35) ?_
   refine take_ (i := 4) (N := some 24) (v := ?_) (a' := ?_) q12_11 rfl rfl (take_ofW HT_.out HW_.out (by kernel_rfl)) (fun _ _ _ h => h) (Or.inl ⟨by rfl, ?_⟩) hHeld ?_ ?_
   rotate_left
   ·rintro w' ⟨s0, s1, s2, s3, s4, s5, s6, s7, s8, s9⟩
    go_simp
    with_reducible rfl
   rotate_left
   ·simp only [aq_]
    rfl
   refine pw_ HT_ 5 (some 25) ?_
   refine take_ (i := 6) (N := some 26) (v := ?_) (a' := ?_) q12_13 rfl rfl (take_ofW HT_.out HW_.out (by kernel_rfl)) (fun _ _ _ h => h) (Or.inl ⟨by rfl, ?_⟩) hHeld ?_ ?_
   rotate_left
   ·rintro w' ⟨s0, s1, s2, s3, s4, s5, s6, s7, s8, s9⟩
    go_simp
    with_reducible rfl
   rotate_left
   ·simp only [aq_]
    rfl
   refine take_ (i := 12) (N := some 32) (v := ?_) (a' := ?_) q12_14 rfl rfl (take_ofW HT_.out HW_.out (by kernel_rfl)) (fun _ _ _ h => h) (Or.inl ⟨by rfl, ?_⟩) hHeld ?_ ?_
   rotate_left
   ·rintro w' ⟨s0, s1, s2, s3, s4, s5, s6, s7, s8, s9⟩
    go_simp
    with_reducible rfl
   rotate_left
   ·simp only [aq_]
    rfl
   refine pw_ HT_ 13 (some 33) ?_
   refine take_ (i := 14) (N := some 34) (v := ?_) (a' := ?_) q12_16 rfl rfl (take_ofW HT_.out HW_.out (by kernel_rfl)) (fun _ _ _ h => h) (Or.inl ⟨by rfl, ?_⟩) hHeld ?_ ?_
   rotate_left
   ·rintro w' ⟨s0, s1, s2, s3, s4, s5, s6, s7, s8, s9⟩
    go_simp
    with_reducible rfl
   rotate_left
   ·simp only [aq_]
    rfl
   refine one_ (i := 16) (N := some 36) q12_17 rfl rfl (one_of HT_.out (by kernel_rfl)) (by decide) (fun K hK => ?_)
   refine goes_ Try.func17 (by kernel_rfl) rfl #[.agg #[.int .i64 ((rd_T42 l0 (rd l1 x8_1)).f0), .int .i64 ((rd_T42 l0 (rd l1 x8_1)).f1), .int .i64 ((rd_T42 l0 (rd l1 x8_1)).f2), .int .i64 ((rd_T42 l0 (rd l1 x8_1)).f3)], .agg #[.int .i64 ((rd_T42 l0 (rd l1 (ji11))).f0), .int .i64 ((rd_T42 l0 (rd l1 (ji11))).f1), .int .i64 ((rd_T42 l0 (rd l1 (ji11))).f2), .int .i64 ((rd_T42 l0 (rd l1 (ji11))).f3)], .int .i64 a2] (by rfl) rfl rfl (by (try simp only [mA_]); first | done | (simp only [hji11]; rfl) | rfl | (simp only [List.length_drop, List.length_take]; rfl)) ?_
   with_reducible refine (impl_difference.calls ((rd_T42 l0 (rd l1 x8_1)).f0) ((rd_T42 l0 (rd l1 x8_1)).f1) ((rd_T42 l0 (rd l1 x8_1)).f2) ((rd_T42 l0 (rd l1 x8_1)).f3) ((rd_T42 l0 (rd l1 (ji11))).f0) ((rd_T42 l0 (rd l1 (ji11))).f1) ((rd_T42 l0 (rd l1 (ji11))).f2) ((rd_T42 l0 (rd l1 (ji11))).f3) a2 t455 _ A16.out).mono ?_
   rintro e w19 ⟨rfl, hb⟩
   refine ⟨_, rfl, ?_⟩
   have n0_ := Aside0.mk (below_step (bw HB.out) hb)
   replace HB := n0_
   clear n0_
   (try clear hb)
   (try clear hb2)
   (try clear hk)
   (try clear hi)
   refine hK.out _ _ ⟨(bcl_ HB.out hw451_0 :), (bcl_ HB.out hw452_0 :), (bcl_ HB.out hw452_1 :), (bcl_ HB.out hw452_2 :), (bcl_ HB.out hw452_3 :), (bcl_ HB.out hw453_0 :), (bcl_ HB.out hw454_0 :), (bcl_ HB.out hw454_1 :), (bcl_ HB.out hw454_2 :), (bcl_ HB.out hw454_3 :)⟩ (fun hHeld => ?_)
   clear hK K
   refine norm_ (a' := ?_) ?_ ?_
   rotate_left
   ·show Act.put _ (some 36) _ = _
    simp only [aq_]
    rfl
   refine pw_ HT_ 17 (some 37) ?_
   refine done_ (done_of HT_.out (by kernel_rfl)) ?_
   try go_wp2
   go_ret2
   exact ⟨by first | rfl | (simp [errW_none, errW_some] <;> rfl) | (simp only [← hji11]; first | rfl | (simp [errW_none, errW_some] <;> rfl)) | (simp [*, errW_none, errW_some] <;> rfl), bw HB.out⟩

/-! ### impl_numbersTo: function 56 -/
def impl_numbersTo.l0 : Nat → Int → List Int → Int → Option (List Int)
 | 0, _, _, _ => none
 | k + 1, x0, x3, x4 => if x4 < x0 then (if x3.length < 17592186044416 then (impl_numbersTo.l0 k x0 (x3 ++ [x4]) (wrap64 (x4 + 1))) else (none)) else (some x3)
def impl_numbersTo.f (k : Nat) (a0 : Int) : Option (List Int) := impl_numbersTo.l0 k a0 ([] : List Int) 0
theorem impl_numbersTo.mono_l : ∀ k, (∀ y0 y1 y2, LeO (impl_numbersTo.l0 k y0 y1 y2) (impl_numbersTo.l0 (k + 1) y0 y1 y2))
 | 0 => fun _ _ _ r h => by simp [impl_numbersTo.l0] at h
 | k + 1 => by
  have ih0 := impl_numbersTo.mono_l k
  ·intro y0 y1 y2
   unfold impl_numbersTo.l0
   repeat' first
   | (with_reducible exact ih0 _ _ _)
   | (with_reducible exact LeO.refl _)
   | (with_reducible exact LeO.none _)
   | (with_reducible refine LeO.ite ?_ ?_)
   | (with_reducible refine LeO.bind ?_ (fun _ => ?_))
   | exact ih0 _ _ _
   | exact LeO.none _
   | refine LeO.ite ?_ ?_
   | refine LeO.bind ?_ (fun _ => ?_)
theorem impl_numbersTo.mono : ∀ a0 k, LeO (impl_numbersTo.f k a0) (impl_numbersTo.f (k + 1) a0) := by
 intro a0 k
 have ih0 := impl_numbersTo.mono_l k
 unfold impl_numbersTo.f
 repeat' first
   | (with_reducible exact ih0 _ _ _)
   | (with_reducible exact LeO.refl _)
   | (with_reducible exact LeO.none _)
   | (with_reducible refine LeO.ite ?_ ?_)
   | (with_reducible refine LeO.bind ?_ (fun _ => ?_))
   | exact ih0 _ _ _
   | exact LeO.none _
   | refine LeO.ite ?_ ?_
   | refine LeO.bind ?_ (fun _ => ?_)
set_option maxHeartbeats 8000000 in
set_option maxRecDepth 100000 in
theorem impl_numbersTo.calls (k : Nat) (a0 : Int) (r : List Int) (w : World) (h : impl_numbersTo.f k a0 = some r) :
  Calls Try.prog 56 #[.int .i64 a0] w fun e w' => ∃ v0_ : Value, e = .returned (v0_) ∧ Kd.R (Kd.int .i64) 3 w' w.heap.size (fun _ => True) v0_ r ∧ Below w.heap.size w w' := by
 have HB := Aside0.mk (Below.refl w.heap.size w)
 have H : (impl_numbersTo.l0 k a0 ([] : List Int) 0) = some r := h
 clear h
 have H' := Aside0.mk H
 clear H
 go_enter Try.func56, Try.ntmps56
 go_wp2
 go_loopg [3, 4] k (fun kq v3 v4 w' => ∃ (x3_1 : List Int) (x4_1 : Int), v4 = .int .i64 x4_1 ∧ Aside0 (impl_numbersTo.l0 kq a0 x3_1 x4_1 = some r) ∧ Aside0 (kq ≤ k) ∧ Aside0 (Kd.R (Kd.int .i64) 3 w' w.heap.size (fun _ => True) v3 x3_1) ∧ Aside0 (Below w.heap.size w w'))
 case atStart => exact ⟨(([] : List Int)), (0), (by first | rfl | (simp; done) | (simp [*]; done)), H', ⟨Nat.le_refl _⟩, ⟨by first | exact Kd.R_nil _ _ _ _ _ | exact Kd.N_nil _ _ _ _ _ | exact Kd.V_nil _ _ _ _ _ | exact Kd.Q_nil _ _ _ _ _ | exact Kd.S_nil _ _ _ _ _⟩, ⟨bw HB.out⟩⟩
 case round =>
  clear H'
  obtain ⟨x3_1, x4_1, rfl, HA, HK1, HO_3, HB⟩ := hrel
  cases gk with
  | zero => exact absurd HA.out (by simp [impl_numbersTo.l0])
  | succ k1 =>
   have H := HA.out
   clear HA
   simp only [impl_numbersTo.l0] at H
   by_cases c2 : x4_1 < a0
   rotate_left
   ·rw [if_neg c2] at H
    have c2b0 : decide (x4_1 < a0) = false := decide_eq_false c2
    clear c2
    obtain rfl := Option.some.inj H
    go_wp2
    go_ret
    exact ⟨_, by first | rfl | (simp [errW_none, errW_some] <;> rfl) | (simp [*, errW_none, errW_some] <;> rfl), by (with_reducible repeat (first | apply Kd.R_alloc | apply Kd.R_drewN | apply Kd.R_drew)); exact HO_3.out, bw HB.out⟩
   rw [if_pos c2] at H
   have c2b0 : decide (x4_1 < a0) = true := decide_eq_true c2
   clear c2
   by_cases c3 : x3_1.length < 17592186044416
   rotate_left
   ·rw [if_neg c3] at H
    exact absurd H (by simp)
   rw [if_pos c3] at H
   have LMc3 := Aside0.mk c3
   clear c3
   obtain ⟨y456, hy456⟩ : ∃ y_ : List Int, y_ = (x3_1 ++ [x4_1]) := ⟨_, rfl⟩
   replace H : (impl_numbersTo.l0 k1 a0 y456 (wrap64 (x4_1 + 1))) = some r := by first | (rw [hy456]; with_reducible exact H) | (have H2_ := (Option.bind_some _ _).symm.trans H; rw [hy456]; with_reducible exact H2_) | (have H2_ := (Option.bind_some _ _).symm.trans H; with_reducible exact H2_) | with_reducible exact H | (rw [hy456]; exact H) | exact H
   have Ny456 := Aside0.mk hy456
   clear hy456
   have H' := Aside0.mk H
   clear H
   go_wp2_with (first | ((with_reducible refine gate_builtin (b := .append) (xs := #[.tmp 10, .tmp 12]) rfl ?_); at_builtin; refine Kd.R_append (Kd.int .i64) (w0 := w) w.heap.size rfl (.tmp 10) (.tmp 12) 25 3 (.int .i64 0) 8 rfl Try.underlying25 info3 rfl (by decide) (by omega) u3 x3_1 x4_1 [.int .i64 x4_1] (fun _ => True) (fun _ => False) rfl rfl ?aP (fun _ hk => hk.elim) ?aF ?aO ?aB ?aS ?aL ?_; (case aP => exact rfl); (case aB => exact (bw HB.out)); (case aF => exact (fun _ _ => trivial)); (case aO => exact (bR HO_3.out)); (case aS => exact (below_size (bw HB.out))); (case aL => have := LMc3.out; omega); intro v457 w4 ho hb hg hat; rw [← Ny456.out] at ho; have n0_ := Aside0.mk (hb); have n1_ := Aside0.mk (ho); clear HO_3; replace HB := n0_; have HO458 := n1_; clear n0_ n1_; clear ho hb hg hat))
   go_roundg k1
   case measure => have := HK1.out; omega
   case rel => exact ⟨(y456), (wrap64 (x4_1 + 1)), (by first | rfl | (simp; done) | (simp [*]; done)), H', ⟨by have := HK1.out; omega⟩, ⟨bR HO458.out⟩, ⟨bw HB.out⟩⟩

/-! ### impl_nextOrder: function 57 -/
abbrev q57_0 : Array Bool := ⟨rl_ [14] false⟩
abbrev q57_11 : Array Bool := ⟨rl_ [11, 3] true⟩
abbrev q57_12 : Array Bool := ⟨rl_ [12, 2] true⟩
abbrev q57_19 : Array Bool := ⟨rl_ [9] false⟩
abbrev q57_26 : Array Bool := ⟨rl_ [7, 2] true⟩
abbrev q57_27 : Array Bool := ⟨rl_ [8, 1] true⟩
abbrev q57_29 : Array Bool := ⟨rl_ [16] false⟩
abbrev q57_40 : Array Bool := ⟨rl_ [11, 5] true⟩
abbrev q57_41 : Array Bool := ⟨rl_ [12, 4] true⟩
abbrev q57_43 : Array Bool := ⟨rl_ [14, 2] true⟩
abbrev q57_45 : Array Bool := ⟨rl_ [16] true⟩
mutual
def impl_nextOrder.j1 : Nat → List Int → Int → Option (Bool × List Int)
 | 0, _, _ => none
 | k + 1, x0, x3 => if x3 < 0 then (some (false, x0)) else (impl_nextOrder.l1 k x0 x3 (wrap64 ((x0.length : Int) - 1)))
def impl_nextOrder.l1 : Nat → List Int → Int → Int → Option (Bool × List Int)
 | 0, _, _, _ => none
 | k + 1, x0, x3, x4 => if 0 ≤ x4 then (if x4 < (x0.length : Int) then (if 0 ≤ x3 then (if x3 < (x0.length : Int) then (if (rd x0 x4) < (rd x0 x3) then (impl_nextOrder.l1 k x0 x3 (wrap64 (x4 - 1))) else (impl_nextOrder.l2 k ((x0.set (x3 : Int).toNat (rd x0 x4)).set (x4 : Int).toNat (rd x0 x3)) (wrap64 (x3 + 1)) (wrap64 ((x0.length : Int) - 1)))) else (none)) else (none)) else (none)) else (none)
def impl_nextOrder.l2 : Nat → List Int → Int → Int → Option (Bool × List Int)
 | 0, _, _, _ => none
 | k + 1, x0, x5, x6 => if x5 < x6 then (if 0 ≤ x6 then (if x6 < (x0.length : Int) then (if 0 ≤ x5 then (if x5 < (x0.length : Int) then (impl_nextOrder.l2 k ((x0.set (x5 : Int).toNat (rd x0 x6)).set (x6 : Int).toNat (rd x0 x5)) (wrap64 (x5 + 1)) (wrap64 (x6 - 1))) else (none)) else (none)) else (none)) else (none)) else (some (true, x0))
def impl_nextOrder.l0 : Nat → List Int → Int → Option (Bool × List Int)
 | 0, _, _ => none
 | k + 1, x0, x3 => if x3 ≥ 0 then (if 0 ≤ x3 then (if x3 < (x0.length : Int) then (if 0 ≤ (wrap64 (x3 + 1)) then (if (wrap64 (x3 + 1)) < (x0.length : Int) then (if (rd x0 x3) > (rd x0 (wrap64 (x3 + 1))) then (impl_nextOrder.l0 k x0 (wrap64 (x3 - 1))) else (impl_nextOrder.j1 k x0 x3)) else (none)) else (none)) else (none)) else (none)) else (impl_nextOrder.j1 k x0 x3)
end
def impl_nextOrder.f (k : Nat) (l0 : List Int) : Option (Bool × List Int) := impl_nextOrder.l0 k l0 (wrap64 ((l0.length : Int) - 2))
theorem impl_nextOrder.mono_l : ∀ k, (∀ y0 y1, LeO (impl_nextOrder.j1 k y0 y1) (impl_nextOrder.j1 (k + 1) y0 y1)) ∧ (∀ y0 y1 y2, LeO (impl_nextOrder.l1 k y0 y1 y2) (impl_nextOrder.l1 (k + 1) y0 y1 y2)) ∧ (∀ y0 y1 y2, LeO (impl_nextOrder.l2 k y0 y1 y2) (impl_nextOrder.l2 (k + 1) y0 y1 y2)) ∧ (∀ y0 y1, LeO (impl_nextOrder.l0 k y0 y1) (impl_nextOrder.l0 (k + 1) y0 y1))
 | 0 => ⟨fun _ _ r h => by simp [impl_nextOrder.j1] at h, fun _ _ _ r h => by simp [impl_nextOrder.l1] at h, fun _ _ _ r h => by simp [impl_nextOrder.l2] at h, fun _ _ r h => by simp [impl_nextOrder.l0] at h⟩
 | k + 1 => by
  obtain ⟨ih0, ih1, ih2, ih3⟩ := impl_nextOrder.mono_l k
  refine ⟨?_, ?_, ?_, ?_⟩
  ·intro y0 y1
   unfold impl_nextOrder.j1
   repeat' first
   | (with_reducible exact ih0 _ _)
   | (with_reducible exact ih1 _ _ _)
   | (with_reducible exact ih2 _ _ _)
   | (with_reducible exact ih3 _ _)
   | (with_reducible exact LeO.refl _)
   | (with_reducible exact LeO.none _)
   | (with_reducible refine LeO.ite ?_ ?_)
   | (with_reducible refine LeO.bind ?_ (fun _ => ?_))
   | exact ih0 _ _
   | exact ih1 _ _ _
   | exact ih2 _ _ _
   | exact ih3 _ _
   | exact LeO.none _
   | refine LeO.ite ?_ ?_
   | refine LeO.bind ?_ (fun _ => ?_)
  ·intro y0 y1 y2
   unfold impl_nextOrder.l1
   repeat' first
   | (with_reducible exact ih0 _ _)
   | (with_reducible exact ih1 _ _ _)
   | (with_reducible exact ih2 _ _ _)
   | (with_reducible exact ih3 _ _)
   | (with_reducible exact LeO.refl _)
   | (with_reducible exact LeO.none _)
   | (with_reducible refine LeO.ite ?_ ?_)
   | (with_reducible refine LeO.bind ?_ (fun _ => ?_))
   | exact ih0 _ _
   | exact ih1 _ _ _
   | exact ih2 _ _ _
   | exact ih3 _ _
   | exact LeO.none _
   | refine LeO.ite ?_ ?_
   | refine LeO.bind ?_ (fun _ => ?_)
  ·intro y0 y1 y2
   unfold impl_nextOrder.l2
   repeat' first
   | (with_reducible exact ih0 _ _)
   | (with_reducible exact ih1 _ _ _)
   | (with_reducible exact ih2 _ _ _)
   | (with_reducible exact ih3 _ _)
   | (with_reducible exact LeO.refl _)
   | (with_reducible exact LeO.none _)
   | (with_reducible refine LeO.ite ?_ ?_)
   | (with_reducible refine LeO.bind ?_ (fun _ => ?_))
   | exact ih0 _ _
   | exact ih1 _ _ _
   | exact ih2 _ _ _
   | exact ih3 _ _
   | exact LeO.none _
   | refine LeO.ite ?_ ?_
   | refine LeO.bind ?_ (fun _ => ?_)
  ·intro y0 y1
   unfold impl_nextOrder.l0
   repeat' first
   | (with_reducible exact ih0 _ _)
   | (with_reducible exact ih1 _ _ _)
   | (with_reducible exact ih2 _ _ _)
   | (with_reducible exact ih3 _ _)
   | (with_reducible exact LeO.refl _)
   | (with_reducible exact LeO.none _)
   | (with_reducible refine LeO.ite ?_ ?_)
   | (with_reducible refine LeO.bind ?_ (fun _ => ?_))
   | exact ih0 _ _
   | exact ih1 _ _ _
   | exact ih2 _ _ _
   | exact ih3 _ _
   | exact LeO.none _
   | refine LeO.ite ?_ ?_
   | refine LeO.bind ?_ (fun _ => ?_)
theorem impl_nextOrder.mono : ∀ a0 k, LeO (impl_nextOrder.f k a0) (impl_nextOrder.f (k + 1) a0) := by
 intro a0 k
 obtain ⟨ih0, ih1, ih2, ih3⟩ := impl_nextOrder.mono_l k
 unfold impl_nextOrder.f
 repeat' first
   | (with_reducible exact ih0 _ _)
   | (with_reducible exact ih1 _ _ _)
   | (with_reducible exact ih2 _ _ _)
   | (with_reducible exact ih3 _ _)
   | (with_reducible exact LeO.refl _)
   | (with_reducible exact LeO.none _)
   | (with_reducible refine LeO.ite ?_ ?_)
   | (with_reducible refine LeO.bind ?_ (fun _ => ?_))
   | exact ih0 _ _
   | exact ih1 _ _ _
   | exact ih2 _ _ _
   | exact ih3 _ _
   | exact LeO.none _
   | refine LeO.ite ?_ ?_
   | refine LeO.bind ?_ (fun _ => ?_)
def impl_nextOrder.T2 : Bool × List (List Nat × List Nat) := (true, [([], []), ([0], [0]), ([1], [1]), ([2], [2]), ([2], [2]), ([3, 4, 2], [2, 3, 4]), ([5, 2], [2, 5]), ([2], [2]), ([2], [2]), ([8, 2], [2, 8]), ([7, 9, 2], [2, 7, 9]), ([10, 2], [2, 10]), ([6, 11, 2], [2, 6, 11]), ([2, 12], [2, 12])])
def impl_nextOrder.B2 : List Nat := [0, 1, 3, 7, 7, 31, 63, 7, 7, 263, 903, 1927, 4095, 8191]
theorem impl_nextOrder.tab2 : rtab .any (opsOf Try.f57 2) = impl_nextOrder.T2 := by kernel_rfl
theorem impl_nextOrder.bits2 : waitsOk impl_nextOrder.T2.2 impl_nextOrder.B2 = true := by kernel_rfl
def impl_nextOrder.T7 : Bool × List (List Nat × List Nat) := (true, [([], []), ([], []), ([0, 1], [0, 1]), ([2], [2]), ([], []), ([], []), ([4, 5], [4, 5]), ([6], [6]), ([3, 7], [3, 7])])
def impl_nextOrder.B7 : List Nat := [0, 0, 3, 7, 0, 0, 48, 112, 255]
theorem impl_nextOrder.tab7 : rtab .any (opsOf Try.f57 7) = impl_nextOrder.T7 := by kernel_rfl
theorem impl_nextOrder.bits7 : waitsOk impl_nextOrder.T7.2 impl_nextOrder.B7 = true := by kernel_rfl
def impl_nextOrder.T9 : Bool × List (List Nat × List Nat) := (true, [([], []), ([], []), ([], []), ([], []), ([], []), ([], []), ([4, 5], [4, 5]), ([6], [6]), ([], []), ([], []), ([8, 9], [8, 9]), ([10], [10]), ([0, 1, 0, 1, 4, 5, 6, 7, 11], [0, 1]), ([12, 7, 0, 1, 4, 5, 6, 7, 11], [7, 12]), ([2, 3, 0, 1, 2, 3, 4, 5, 6, 7, 8, 9, 10, 11, 12, 13], [2, 3]), ([14, 11, 13, 0, 1, 2, 3, 4, 5, 6, 7, 8, 9, 10, 11, 12, 13], [11, 14])])
def impl_nextOrder.B9 : List Nat := [0, 0, 0, 0, 0, 0, 48, 112, 0, 0, 768, 1792, 4083, 8179, 16383, 32767]
theorem impl_nextOrder.tab9 : rtab .any (opsOf Try.f57 9) = impl_nextOrder.T9 := by kernel_rfl
theorem impl_nextOrder.bits9 : waitsOk impl_nextOrder.T9.2 impl_nextOrder.B9 = true := by kernel_rfl
def impl_nextOrder.T13 : Bool × List (List Nat × List Nat) := (true, [([], []), ([], []), ([], []), ([], []), ([], []), ([], []), ([4, 5], [4, 5]), ([6], [6]), ([], []), ([], []), ([8, 9], [8, 9]), ([10], [10]), ([0, 1, 0, 1, 4, 5, 6, 7, 11], [0, 1]), ([12, 7, 0, 1, 4, 5, 6, 7, 11], [7, 12]), ([2, 3, 0, 1, 2, 3, 4, 5, 6, 7, 8, 9, 10, 11, 12, 13], [2, 3]), ([14, 11, 13, 0, 1, 2, 3, 4, 5, 6, 7, 8, 9, 10, 11, 12, 13], [11, 14])])
def impl_nextOrder.B13 : List Nat := [0, 0, 0, 0, 0, 0, 48, 112, 0, 0, 768, 1792, 4083, 8179, 16383, 32767]
theorem impl_nextOrder.tab13 : rtab .any (opsOf Try.f57 13) = impl_nextOrder.T13 := by kernel_rfl
theorem impl_nextOrder.bits13 : waitsOk impl_nextOrder.T13.2 impl_nextOrder.B13 = true := by kernel_rfl
set_option maxHeartbeats 8000000 in
set_option maxRecDepth 100000 in
theorem impl_nextOrder.calls (k : Nat) (P0_ : Nat → Prop) (u9000_ : Value) (l0 : List Int) (r1 : Bool) (r2 : List Int) (w0 w : World) (hB : Below w0.heap.size w0 w) (ho0 : Kd.R (Kd.int .i64) 3 w w0.heap.size P0_ u9000_ l0) (h : impl_nextOrder.f k l0 = some (r1, r2)) :
  Calls Try.prog 57 #[u9000_] w fun e w' => e = .returned (.bool r1) ∧ Kd.R (Kd.int .i64) 3 w' w0.heap.size (fun k_ => (P0_ k_ ∨ w.heap.size ≤ k_)) u9000_ r2 ∧ Below w0.heap.size w0 w' ∧ Kept w w' (fun k_ => P0_ k_) := by
 have HO0 := Aside0.mk (show Kd.R (Kd.int .i64) 3 w w0.heap.size (fun k_ => (P0_ k_ ∨ w.heap.size ≤ k_)) u9000_ l0 from Kd.R_mono ho0 (fun k_ hk => (.inl hk)))
 have HK := Aside0.mk (Kept.refl w (fun k_ => P0_ k_))
 have HW0 := Aside0.mk hB.size
 have HB := Aside0.mk hB
 clear hB
 have H : (impl_nextOrder.l0 k l0 (wrap64 ((l0.length : Int) - 2))) = some (r1, r2) := h
 clear h
 have HC2 := Aside0.mk H
 clear H
 obtain ⟨Ao3, co3, eo3⟩ := Kd.R_slice HO0.out
 subst eo3
 go_enter Try.func57, Try.ntmps57
 go_upto_block 0 with (fail)
 go_cut [3] (fun v3 wc => ∃ (kq : Nat) (x3_1 : Int), v3 = .int .i64 x3_1 ∧ Aside0 (impl_nextOrder.j1 kq l0 x3_1 = some (r1, r2)) ∧ Aside0 (kq ≤ k) ∧ Aside0 (Kd.R (Kd.int .i64) 3 wc w0.heap.size (fun k_ => (P0_ k_ ∨ w.heap.size ≤ k_)) (.slice Ao3 l0.length co3) l0) ∧ Aside0 (Kept w wc (fun k_ => P0_ k_)) ∧ Aside0 (Below w0.heap.size w0 wc))
 case first =>
  have H := HC2.out
  clear HC2
  have H' := Aside0.mk H
  clear H
  go_wp2
  go_loopg [3] k (fun kq v3 w' => ∃ (x3_1 : Int), v3 = .int .i64 x3_1 ∧ Aside0 (impl_nextOrder.l0 kq l0 x3_1 = some (r1, r2)) ∧ Aside0 (kq ≤ k) ∧ Aside0 (Kd.R (Kd.int .i64) 3 w' w0.heap.size (fun k_ => (P0_ k_ ∨ w.heap.size ≤ k_)) (.slice Ao3 l0.length co3) l0) ∧ Aside0 (Kept w w' (fun k_ => P0_ k_)) ∧ Aside0 (Below w0.heap.size w0 w'))
  case atStart => exact ⟨(wrap64 ((l0.length : Int) - 2)), (by first | rfl | (simp; done) | (simp [*]; done)), H', ⟨Nat.le_refl _⟩, ⟨bR HO0.out⟩, ⟨by repeat (first | (with_reducible first | exact HK.out | apply Kept.alloc | apply Kept.drewN | apply Kept.drew) | exact HK.out)⟩, ⟨bw HB.out⟩⟩
  case round =>
   clear H'
   try clear p2
   obtain ⟨x3_1, rfl, HA, HK1, HO_0, HK, HB⟩ := hrel
   cases gk with
   | zero => exact absurd HA.out (by simp [impl_nextOrder.l0])
   | succ k1 =>
    have H := HA.out
    clear HA
    simp only [impl_nextOrder.l0] at H
    by_cases c4 : x3_1 ≥ 0
    rotate_left
    ·rw [if_neg c4] at H
     have c4b0 : decide (0 ≤ x3_1) = false := decide_eq_false c4
     clear c4
     (first | rw [c4b0] | (simp only [i64_w, i32_w]; rw [c4b0]) | skip)
     have H' := Aside0.mk H
     clear H
     try go_wp2
     have n0_ := Aside0.mk (Kd.R_drew HO_0.out)
     have n1_ := Aside0.mk (Kept.drew HK.out)
     have n2_ := Aside0.mk (below_drew1 HB.out)
     replace HO_0 := n0_
     replace HK := n1_
     replace HB := n2_
     clear n0_ n1_ n2_
     refine start_ (n := 14) (S := fun w' => True) (ds := []) q57_0 (by kernel_rfl) rfl rfl trivial (fun hHeld => ?_); refine with_tabW impl_nextOrder.tab2 impl_nextOrder.bits2 (fun HT_ HW_ => ?_)
     generalize wr.drew = w13 at HO_0 HK HB hHeld ⊢
     refine pw_ HT_ 0 (some 10) ?_
     refine pw_ HT_ 1 (some 11) ?_
     refine pw_ HT_ 2 (some 12) ?_
     refine sw_ HT_ 3 (some 13) ?_
     refine sw_ HT_ 4 (some 14) ?_
     refine sw_ HT_ 5 (some 15) ?_
     refine sw_ HT_ 6 (some 16) ?_
     refine sw_ HT_ 7 (some 17) ?_
     refine sw_ HT_ 8 (some 18) ?_
     refine sw_ HT_ 9 (some 19) ?_
     refine sw_ HT_ 10 (some 20) ?_
     refine sw_ HT_ 11 (some 21) ?_
     refine sw_ HT_ 12 (some 22) ?_
     refine pw_ HT_ 13 (some 23) ?_
     refine done_ (done_of HT_.out (by kernel_rfl)) ?_
     try go_wp2
     go_meet
     case rel => exact ⟨_, (x3_1), (by first | rfl | (simp; done) | (simp [*]; done)), H', ⟨by have := HK1.out; first | omega | exact Nat.le_refl _⟩, ⟨bR HO_0.out⟩, ⟨by repeat (first | (with_reducible first | exact HK.out | apply Kept.alloc | apply Kept.drewN | apply Kept.drew) | exact HK.out)⟩, ⟨bw HB.out⟩⟩
    rw [if_pos c4] at H
    have c4b0 : decide (0 ≤ x3_1) = true := decide_eq_true c4
    clear c4
    (first | rw [c4b0] | (simp only [i64_w, i32_w]; rw [c4b0]) | skip)
    by_cases c5 : 0 ≤ x3_1
    rotate_left
    ·rw [if_neg c5] at H
     exact absurd H (by simp)
    rw [if_pos c5] at H
    have c5b0 : decide (0 ≤ x3_1) = true := decide_eq_true c5
    clear c5
    by_cases c6 : x3_1 < (l0.length : Int)
    rotate_left
    ·rw [if_neg c6] at H
     exact absurd H (by simp)
    rw [if_pos c6] at H
    have c6b0 : decide (x3_1 < (l0.length : Int)) = true := decide_eq_true c6
    clear c6
    obtain ⟨ji7, hji7⟩ : ∃ j_ : Int, (wrap64 (x3_1 + 1)) = j_ := ⟨_, rfl⟩
    replace H : (if 0 ≤ (ji7) then (if (ji7) < (l0.length : Int) then (if (rd l0 x3_1) > (rd l0 (ji7)) then (impl_nextOrder.l0 k1 l0 (wrap64 (x3_1 - 1))) else (impl_nextOrder.j1 k1 l0 x3_1)) else (none)) else (none)) = some (r1, r2) := by first | (rw [hji7] at H; exact H) | (simp only [hji7] at H ⊢; exact H)
    have hji7w : (IntKind.i64.wrap (x3_1 + 1)) = ji7 := (i64_w _).trans hji7
    by_cases c8 : 0 ≤ (ji7)
    rotate_left
    ·rw [if_neg c8] at H
     exact absurd H (by simp)
    rw [if_pos c8] at H
    have c8b0 : decide (0 ≤ (ji7)) = true := decide_eq_true c8
    clear c8
    by_cases c9 : (ji7) < (l0.length : Int)
    rotate_left
    ·rw [if_neg c9] at H
     exact absurd H (by simp)
    rw [if_pos c9] at H
    have c9b0 : decide ((ji7) < (l0.length : Int)) = true := decide_eq_true c9
    clear c9
    by_cases c10 : (rd l0 x3_1) > (rd l0 (ji7))
    rotate_left
    ·rw [if_neg c10] at H
     have c10b0 : decide ((rd l0 (ji7)) < (rd l0 x3_1)) = false := decide_eq_false c10
     clear c10
     have H' := Aside0.mk H
     clear H
     try go_wp2
     have n0_ := Aside0.mk (Kd.R_drew HO_0.out)
     have n1_ := Aside0.mk (Kept.drew HK.out)
     have n2_ := Aside0.mk (below_drew1 HB.out)
     replace HO_0 := n0_
     replace HK := n1_
     replace HB := n2_
     clear n0_ n1_ n2_
     have p459 : 0 ≤ (x3_1 : Int) := of_decide_eq_true (by first | (with_reducible assumption) | assumption)
     have q459 : x3_1 < (l0.length : Int) := of_decide_eq_true (by first | (with_reducible assumption) | assumption)
     obtain ⟨ad459, e459, hx459_0⟩ := Kd.at_int (Kd.R_reads' HO_0.out).2.2 x3_1 p459 q459
     cases e459
     replace p459 := eq_true p459
     replace q459 := eq_true q459
     have p460 : 0 ≤ ((ji7) : Int) := of_decide_eq_true (by first | (with_reducible assumption) | assumption)
     have q460 : (ji7) < (l0.length : Int) := of_decide_eq_true (by first | (with_reducible assumption) | assumption)
     obtain ⟨ad460, e460, hx460_0⟩ := Kd.at_int (Kd.R_reads' HO_0.out).2.2 (ji7) p460 q460
     obtain rfl : ad459 = ad460 := (by injection e460)
     replace p460 := eq_true p460
     replace q460 := eq_true q460
     refine start_ (n := 14) (S := fun w' => w'.cell? (ad459.add (x3_1).toNat) = some (.int .i64 (rd l0 x3_1)) ∧ w'.cell? (ad459.add ((ji7)).toNat) = some (.int .i64 (rd l0 (ji7)))) (ds := []) q57_0 (by kernel_rfl) rfl rfl ⟨hx459_0, hx460_0⟩ (fun hHeld => ?_); refine with_tabW impl_nextOrder.tab2 impl_nextOrder.bits2 (fun HT_ HW_ => ?_)
     generalize wr.drew = w12 at HO_0 HK HB hx459_0 hx460_0 hHeld ⊢
     refine pw_ HT_ 0 (some 10) ?_
     refine pw_ HT_ 1 (some 11) ?_
     refine pw_ HT_ 2 (some 12) ?_
     refine pw_ HT_ 3 (some 13) ?_
     refine pw_ HT_ 4 (some 14) ?_
     refine pw_ HT_ 5 (some 15) ?_
     refine pw_ HT_ 7 (some 17) ?_
     refine pw_ HT_ 8 (some 18) ?_
     refine pw_ HT_ 9 (some 19) ?_
     refine pw_ HT_ 10 (some 20) ?_
     refine take_ (i := 6) (N := some 16) (v := ?_) (a' := ?_) q57_11 rfl rfl (take_ofW HT_.out HW_.out (by kernel_rfl)) (fun _ _ _ h => h) (Or.inl ⟨by rfl, ?_⟩) hHeld ?_ ?_
     rotate_left
     ·rintro w' ⟨s0, s1⟩
      go_simp
      with_reducible rfl
     rotate_left
     ·simp only [aq_]
      rfl
     refine take_ (i := 11) (N := some 21) (v := ?_) (a' := ?_) q57_12 rfl rfl (take_ofW HT_.out HW_.out (by kernel_rfl)) (fun _ _ _ h => h) (Or.inl ⟨by rfl, ?_⟩) hHeld ?_ ?_
     rotate_left
     ·rintro w' ⟨s0, s1⟩
      go_simp
      with_reducible rfl
     rotate_left
     ·simp only [aq_]
      rfl
     refine pw_ HT_ 12 (some 22) ?_
     refine pw_ HT_ 13 (some 23) ?_
     refine done_ (done_of HT_.out (by kernel_rfl)) ?_
     try go_wp2
     go_meet
     case rel => exact ⟨_, (x3_1), (by first | rfl | (simp; done) | (simp [*]; done)), H', ⟨by have := HK1.out; first | omega | exact Nat.le_refl _⟩, ⟨bR HO_0.out⟩, ⟨by repeat (first | (with_reducible first | exact HK.out | apply Kept.alloc | apply Kept.drewN | apply Kept.drew) | exact HK.out)⟩, ⟨bw HB.out⟩⟩
    rw [if_pos c10] at H
    have c10b0 : decide ((rd l0 (ji7)) < (rd l0 x3_1)) = true := decide_eq_true c10
    clear c10
    have H' := Aside0.mk H
    clear H
    try go_wp2
    have n0_ := Aside0.mk (Kd.R_drew HO_0.out)
    have n1_ := Aside0.mk (Kept.drew HK.out)
    have n2_ := Aside0.mk (below_drew1 HB.out)
    replace HO_0 := n0_
    replace HK := n1_
    replace HB := n2_
    clear n0_ n1_ n2_
    have p459 : 0 ≤ (x3_1 : Int) := of_decide_eq_true (by first | (with_reducible assumption) | assumption)
    have q459 : x3_1 < (l0.length : Int) := of_decide_eq_true (by first | (with_reducible assumption) | assumption)
    obtain ⟨ad459, e459, hx459_0⟩ := Kd.at_int (Kd.R_reads' HO_0.out).2.2 x3_1 p459 q459
    cases e459
    replace p459 := eq_true p459
    replace q459 := eq_true q459
    have p460 : 0 ≤ ((ji7) : Int) := of_decide_eq_true (by first | (with_reducible assumption) | assumption)
    have q460 : (ji7) < (l0.length : Int) := of_decide_eq_true (by first | (with_reducible assumption) | assumption)
    obtain ⟨ad460, e460, hx460_0⟩ := Kd.at_int (Kd.R_reads' HO_0.out).2.2 (ji7) p460 q460
    obtain rfl : ad459 = ad460 := (by injection e460)
    replace p460 := eq_true p460
    replace q460 := eq_true q460
    refine start_ (n := 14) (S := fun w' => w'.cell? (ad459.add (x3_1).toNat) = some (.int .i64 (rd l0 x3_1)) ∧ w'.cell? (ad459.add ((ji7)).toNat) = some (.int .i64 (rd l0 (ji7)))) (ds := []) q57_0 (by kernel_rfl) rfl rfl ⟨hx459_0, hx460_0⟩ (fun hHeld => ?_); refine with_tabW impl_nextOrder.tab2 impl_nextOrder.bits2 (fun HT_ HW_ => ?_)
    generalize wr.drew = w11 at HO_0 HK HB hx459_0 hx460_0 hHeld ⊢
    refine pw_ HT_ 0 (some 10) ?_
    refine pw_ HT_ 1 (some 11) ?_
    refine pw_ HT_ 2 (some 12) ?_
    refine pw_ HT_ 3 (some 13) ?_
    refine pw_ HT_ 4 (some 14) ?_
    refine pw_ HT_ 5 (some 15) ?_
    refine pw_ HT_ 7 (some 17) ?_
    refine pw_ HT_ 8 (some 18) ?_
    refine pw_ HT_ 9 (some 19) ?_
    refine pw_ HT_ 10 (some 20) ?_
    refine take_ (i := 6) (N := some 16) (v := ?_) (a' := ?_) q57_11 rfl rfl (take_ofW HT_.out HW_.out (by kernel_rfl)) (fun _ _ _ h => h) (Or.inl ⟨by rfl, ?_⟩) hHeld ?_ ?_
    rotate_left
    ·rintro w' ⟨s0, s1⟩
     go_simp
     with_reducible rfl
    rotate_left
    ·simp only [aq_]
     rfl
    refine take_ (i := 11) (N := some 21) (v := ?_) (a' := ?_) q57_12 rfl rfl (take_ofW HT_.out HW_.out (by kernel_rfl)) (fun _ _ _ h => h) (Or.inl ⟨by rfl, ?_⟩) hHeld ?_ ?_
    rotate_left
    ·rintro w' ⟨s0, s1⟩
     go_simp
     with_reducible rfl
    rotate_left
    ·simp only [aq_]
     rfl
    refine pw_ HT_ 12 (some 22) ?_
    refine pw_ HT_ 13 (some 23) ?_
    refine done_ (done_of HT_.out (by kernel_rfl)) ?_
    try go_wp2
    go_roundg k1
    case measure => have := HK1.out; omega
    case rel => exact ⟨(wrap64 (x3_1 - 1)), (by first | rfl | (simp; done) | (simp [*]; done)), H', ⟨by have := HK1.out; omega⟩, ⟨bR HO_0.out⟩, ⟨by repeat (first | (with_reducible first | exact HK.out | apply Kept.alloc | apply Kept.drewN | apply Kept.drew) | exact HK.out)⟩, ⟨bw HB.out⟩⟩
 case rest =>
  clear HC2
  try clear c1
  try clear p2
  try clear c4
  try clear c4b0
  try clear p4
  try clear q4
  try clear hx4
  try clear c5
  try clear c5b0
  try clear c6
  try clear c6b0
  try clear p6
  try clear c8
  try clear c8b0
  try clear c9
  try clear c9b0
  try clear c10
  try clear c10b0
  try clear hx459_0
  try clear hx460_0
  try clear p2
  try clear p459
  try clear p460
  try clear q459
  try clear q460
  obtain ⟨kq, x3_1, rfl, HA, HJ1, HO_0, HK, HB⟩ := hcut
  cases kq with
  | zero => exact absurd HA.out (by simp [impl_nextOrder.j1])
  | succ kj1 =>
   have H := HA.out
   clear HA
   simp only [impl_nextOrder.j1] at H
   by_cases c14 : x3_1 < 0
   ·rw [if_pos c14] at H
    have c14b0 : decide (x3_1 < 0) = true := decide_eq_true c14
    clear c14
    simp only [Option.some.injEq, Prod.mk.injEq] at H
    obtain ⟨rfl, rfl⟩ := H
    go_wp2
    go_ret
    exact ⟨by first | rfl | (simp [errW_none, errW_some] <;> rfl) | (simp [*, errW_none, errW_some] <;> rfl), by (with_reducible repeat (first | apply Kd.R_alloc | apply Kd.R_drewN | apply Kd.R_drew)); exact HO_0.out, bw HB.out, by repeat (first | (with_reducible first | exact HK.out | apply Kept.alloc | apply Kept.drewN | apply Kept.drew) | exact HK.out)⟩
   rw [if_neg c14] at H
   have c14b0 : decide (x3_1 < 0) = false := decide_eq_false c14
   clear c14
   have H' := Aside0.mk H
   clear H
   go_wp2
   go_loopg [4] kj1 (fun kq v4 w' => ∃ (x4_2 : Int), v4 = .int .i64 x4_2 ∧ Aside0 (impl_nextOrder.l1 kq l0 x3_1 x4_2 = some (r1, r2)) ∧ Aside0 (kq ≤ kj1) ∧ Aside0 (Kd.R (Kd.int .i64) 3 w' w0.heap.size (fun k_ => (P0_ k_ ∨ w.heap.size ≤ k_)) (.slice Ao3 l0.length co3) l0) ∧ Aside0 (Kept w w' (fun k_ => P0_ k_)) ∧ Aside0 (Below w0.heap.size w0 w'))
   case atStart => exact ⟨(wrap64 ((l0.length : Int) - 1)), (by first | rfl | (simp; done) | (simp [*]; done)), H', ⟨Nat.le_refl _⟩, ⟨bR HO_0.out⟩, ⟨by repeat (first | (with_reducible first | exact HK.out | apply Kept.alloc | apply Kept.drewN | apply Kept.drew) | exact HK.out)⟩, ⟨bw HB.out⟩⟩
   case round =>
    clear H'
    try clear c1
    try clear p2
    try clear c4
    try clear c4b0
    try clear p4
    try clear q4
    try clear hx4
    try clear c5
    try clear c5b0
    try clear c6
    try clear c6b0
    try clear p6
    try clear c8
    try clear c8b0
    try clear c9
    try clear c9b0
    try clear c10
    try clear c10b0
    try clear c14
    try clear c14b0
    try clear hx459_0
    try clear hx460_0
    try clear p2
    try clear p4
    try clear p459
    try clear p460
    try clear p6
    try clear q4
    try clear q459
    try clear q460
    obtain ⟨x4_2, rfl, HA, HK2, HO_0, HK, HB⟩ := hrel
    cases gk with
    | zero => exact absurd HA.out (by simp [impl_nextOrder.l1])
    | succ k2 =>
     have H := HA.out
     clear HA
     simp only [impl_nextOrder.l1] at H
     by_cases c15 : 0 ≤ x4_2
     rotate_left
     ·rw [if_neg c15] at H
      exact absurd H (by simp)
     rw [if_pos c15] at H
     have c15b0 : decide (0 ≤ x4_2) = true := decide_eq_true c15
     clear c15
     by_cases c16 : x4_2 < (l0.length : Int)
     rotate_left
     ·rw [if_neg c16] at H
      exact absurd H (by simp)
     rw [if_pos c16] at H
     have c16b0 : decide (x4_2 < (l0.length : Int)) = true := decide_eq_true c16
     clear c16
     by_cases c17 : 0 ≤ x3_1
     rotate_left
     ·rw [if_neg c17] at H
      exact absurd H (by simp)
     rw [if_pos c17] at H
     have c17b0 : decide (0 ≤ x3_1) = true := decide_eq_true c17
     clear c17
     by_cases c18 : x3_1 < (l0.length : Int)
     rotate_left
     ·rw [if_neg c18] at H
      exact absurd H (by simp)
     rw [if_pos c18] at H
     have c18b0 : decide (x3_1 < (l0.length : Int)) = true := decide_eq_true c18
     clear c18
     by_cases c19 : (rd l0 x4_2) < (rd l0 x3_1)
     ·rw [if_pos c19] at H
      have c19b0 : decide ((rd l0 x4_2) < (rd l0 x3_1)) = true := decide_eq_true c19
      clear c19
      have H' := Aside0.mk H
      clear H
      try go_wp2
      have n0_ := Aside0.mk (Kd.R_drew HO_0.out)
      have n1_ := Aside0.mk (Kept.drew HK.out)
      have n2_ := Aside0.mk (below_drew1 HB.out)
      replace HO_0 := n0_
      replace HK := n1_
      replace HB := n2_
      clear n0_ n1_ n2_
      have p461 : 0 ≤ (x4_2 : Int) := of_decide_eq_true (by first | (with_reducible assumption) | assumption)
      have q461 : x4_2 < (l0.length : Int) := of_decide_eq_true (by first | (with_reducible assumption) | assumption)
      obtain ⟨ad461, e461, hx461_0⟩ := Kd.at_int (Kd.R_reads' HO_0.out).2.2 x4_2 p461 q461
      cases e461
      replace p461 := eq_true p461
      replace q461 := eq_true q461
      have p462 : 0 ≤ (x3_1 : Int) := of_decide_eq_true (by first | (with_reducible assumption) | assumption)
      have q462 : x3_1 < (l0.length : Int) := of_decide_eq_true (by first | (with_reducible assumption) | assumption)
      obtain ⟨ad462, e462, hx462_0⟩ := Kd.at_int (Kd.R_reads' HO_0.out).2.2 x3_1 p462 q462
      obtain rfl : ad461 = ad462 := (by injection e462)
      replace p462 := eq_true p462
      replace q462 := eq_true q462
      refine start_ (n := 9) (S := fun w' => w'.cell? (ad461.add (x4_2).toNat) = some (.int .i64 (rd l0 x4_2)) ∧ w'.cell? (ad461.add (x3_1).toNat) = some (.int .i64 (rd l0 x3_1))) (ds := []) q57_19 (by kernel_rfl) rfl rfl ⟨hx461_0, hx462_0⟩ (fun hHeld => ?_); refine with_tabW impl_nextOrder.tab7 impl_nextOrder.bits7 (fun HT_ HW_ => ?_)
      generalize wr.drew = w20 at HO_0 HK HB hx461_0 hx462_0 hHeld ⊢
      refine pw_ HT_ 0 (some 31) ?_
      refine pw_ HT_ 1 (some 32) ?_
      refine pw_ HT_ 2 (some 33) ?_
      refine pw_ HT_ 4 (some 35) ?_
      refine pw_ HT_ 5 (some 36) ?_
      refine pw_ HT_ 6 (some 37) ?_
      refine take_ (i := 3) (N := some 34) (v := ?_) (a' := ?_) q57_26 rfl rfl (take_ofW HT_.out HW_.out (by kernel_rfl)) (fun _ _ _ h => h) (Or.inl ⟨by rfl, ?_⟩) hHeld ?_ ?_
      rotate_left
      ·rintro w' ⟨s0, s1⟩
       go_simp
       with_reducible rfl
      rotate_left
      ·simp only [aq_]
       rfl
      refine take_ (i := 7) (N := some 38) (v := ?_) (a' := ?_) q57_27 rfl rfl (take_ofW HT_.out HW_.out (by kernel_rfl)) (fun _ _ _ h => h) (Or.inl ⟨by rfl, ?_⟩) hHeld ?_ ?_
      rotate_left
      ·rintro w' ⟨s0, s1⟩
       go_simp
       with_reducible rfl
      rotate_left
      ·simp only [aq_]
       rfl
      refine pw_ HT_ 8 (some 39) ?_
      refine done_ (done_of HT_.out (by kernel_rfl)) ?_
      try go_wp2
      go_roundg k2
      case measure => have := HJ1.out; have := HK2.out; omega
      case rel => exact ⟨(wrap64 (x4_2 - 1)), (by first | rfl | (simp; done) | (simp [*]; done)), H', ⟨by have := HJ1.out; have := HK2.out; omega⟩, ⟨bR HO_0.out⟩, ⟨by repeat (first | (with_reducible first | exact HK.out | apply Kept.alloc | apply Kept.drewN | apply Kept.drew) | exact HK.out)⟩, ⟨bw HB.out⟩⟩
     rw [if_neg c19] at H
     have c19b0 : decide ((rd l0 x4_2) < (rd l0 x3_1)) = false := decide_eq_false c19
     clear c19
     obtain ⟨y465, hy465⟩ : ∃ y_ : List Int, y_ = (l0.set (x3_1 : Int).toNat (rd l0 x4_2)) := ⟨_, rfl⟩
     replace H : (impl_nextOrder.l2 k2 (y465.set (x4_2 : Int).toNat (rd l0 x3_1)) (wrap64 (x3_1 + 1)) (wrap64 ((l0.length : Int) - 1))) = some (r1, r2) := by first | (rw [hy465]; with_reducible exact H) | (have H2_ := (Option.bind_some _ _).symm.trans H; rw [hy465]; with_reducible exact H2_) | (have H2_ := (Option.bind_some _ _).symm.trans H; with_reducible exact H2_) | with_reducible exact H | (rw [hy465]; exact H) | exact H
     have Ny465 := Aside0.mk hy465
     clear hy465
     obtain ⟨y466, hy466⟩ : ∃ y_ : List Int, y_ = (y465.set (x4_2 : Int).toNat (rd l0 x3_1)) := ⟨_, rfl⟩
     replace H : (impl_nextOrder.l2 k2 y466 (wrap64 (x3_1 + 1)) (wrap64 ((l0.length : Int) - 1))) = some (r1, r2) := by first | (rw [hy466]; with_reducible exact H) | (have H2_ := (Option.bind_some _ _).symm.trans H; rw [hy466]; with_reducible exact H2_) | (have H2_ := (Option.bind_some _ _).symm.trans H; with_reducible exact H2_) | with_reducible exact H | (rw [hy466]; exact H) | exact H
     have Ny466 := Aside0.mk hy466
     clear hy466
     have H' := Aside0.mk H
     clear H
     try go_wp2
     have n0_ := Aside0.mk (Kd.R_drew HO_0.out)
     have n1_ := Aside0.mk (Kept.drew HK.out)
     have n2_ := Aside0.mk (below_drew1 HB.out)
     replace HO_0 := n0_
     replace HK := n1_
     replace HB := n2_
     clear n0_ n1_ n2_
     have p461 : 0 ≤ (x4_2 : Int) := of_decide_eq_true (by first | (with_reducible assumption) | assumption)
     have q461 : x4_2 < (l0.length : Int) := of_decide_eq_true (by first | (with_reducible assumption) | assumption)
     obtain ⟨ad461, e461, hx461_0⟩ := Kd.at_int (Kd.R_reads' HO_0.out).2.2 x4_2 p461 q461
     cases e461
     replace p461 := eq_true p461
     replace q461 := eq_true q461
     have p462 : 0 ≤ (x3_1 : Int) := of_decide_eq_true (by first | (with_reducible assumption) | assumption)
     have q462 : x3_1 < (l0.length : Int) := of_decide_eq_true (by first | (with_reducible assumption) | assumption)
     obtain ⟨ad462, e462, hx462_0⟩ := Kd.at_int (Kd.R_reads' HO_0.out).2.2 x3_1 p462 q462
     obtain rfl : ad461 = ad462 := (by injection e462)
     replace p462 := eq_true p462
     replace q462 := eq_true q462
     refine start_ (n := 9) (S := fun w' => w'.cell? (ad461.add (x4_2).toNat) = some (.int .i64 (rd l0 x4_2)) ∧ w'.cell? (ad461.add (x3_1).toNat) = some (.int .i64 (rd l0 x3_1))) (ds := []) q57_19 (by kernel_rfl) rfl rfl ⟨hx461_0, hx462_0⟩ (fun hHeld => ?_); refine with_tabW impl_nextOrder.tab7 impl_nextOrder.bits7 (fun HT_ HW_ => ?_)
     generalize wr.drew = w23 at HO_0 HK HB hx461_0 hx462_0 hHeld ⊢
     refine pw_ HT_ 0 (some 31) ?_
     refine pw_ HT_ 1 (some 32) ?_
     refine pw_ HT_ 2 (some 33) ?_
     refine pw_ HT_ 4 (some 35) ?_
     refine pw_ HT_ 5 (some 36) ?_
     refine pw_ HT_ 6 (some 37) ?_
     refine take_ (i := 3) (N := some 34) (v := ?_) (a' := ?_) q57_26 rfl rfl (take_ofW HT_.out HW_.out (by kernel_rfl)) (fun _ _ _ h => h) (Or.inl ⟨by rfl, ?_⟩) hHeld ?_ ?_
     rotate_left
     ·rintro w' ⟨s0, s1⟩
      go_simp
      with_reducible rfl
     rotate_left
     ·simp only [aq_]
      rfl
     refine take_ (i := 7) (N := some 38) (v := ?_) (a' := ?_) q57_27 rfl rfl (take_ofW HT_.out HW_.out (by kernel_rfl)) (fun _ _ _ h => h) (Or.inl ⟨by rfl, ?_⟩) hHeld ?_ ?_
     rotate_left
     ·rintro w' ⟨s0, s1⟩
      go_simp
      with_reducible rfl
     rotate_left
     ·simp only [aq_]
      rfl
     refine pw_ HT_ 8 (some 39) ?_
     refine done_ (done_of HT_.out (by kernel_rfl)) ?_
     try go_wp2
     have n0_ := Aside0.mk (Kd.R_drew HO_0.out)
     have n1_ := Aside0.mk (Kept.drew HK.out)
     have n2_ := Aside0.mk (below_drew1 HB.out)
     replace HO_0 := n0_
     replace HK := n1_
     replace HB := n2_
     clear n0_ n1_ n2_
     have p463 : 0 ≤ (x4_2 : Int) := of_decide_eq_true (by first | (with_reducible assumption) | assumption)
     have q463 : x4_2 < (l0.length : Int) := of_decide_eq_true (by first | (with_reducible assumption) | assumption)
     obtain ⟨ad463, e463, hx463_0⟩ := Kd.at_int (Kd.R_reads' HO_0.out).2.2 x4_2 p463 q463
     obtain rfl : ad461 = ad463 := (by injection e463)
     replace p463 := eq_true p463
     replace q463 := eq_true q463
     have p464 : 0 ≤ (x3_1 : Int) := of_decide_eq_true (by first | (with_reducible assumption) | assumption)
     have q464 : x3_1 < (l0.length : Int) := of_decide_eq_true (by first | (with_reducible assumption) | assumption)
     obtain ⟨ad464, e464, hx464_0⟩ := Kd.at_int (Kd.R_reads' HO_0.out).2.2 x3_1 p464 q464
     obtain rfl : ad461 = ad464 := (by injection e464)
     replace p464 := eq_true p464
     replace q464 := eq_true q464
     have p21 : 0 ≤ (x3_1 : Int) := of_decide_eq_true (by first | (with_reducible assumption) | assumption)
     have q21 : (x3_1 : Int) < ((l0.length : Int) : Int) := of_decide_eq_true (by first | (with_reducible assumption) | assumption)
     obtain ⟨go21, co21, eo21, gb21, gl21, cl21, HG21⟩ := Kd.R_form HO_0.out (by omega)
     (first | cases eo21 | (injection eo21 with ea_ en_ ec_; (first | subst ea_ | (injection ea_ with ea_; subst ea_)); subst ec_; clear en_))
     have GB21 := Aside0.mk gb21
     have GG21 := Aside0.mk HG21
     clear gb21 gl21 HG21
     have HMgo21 := Aside0.mk (show (P0_ go21 ∨ w.heap.size ≤ go21) from (HO_0.out.1 _ rfl))
     (first | simp only [add_plain] at hx461_0 | skip)
     (first | simp only [add_plain] at hx462_0 | skip)
     (first | simp only [add_plain] at hx463_0 | skip)
     (first | simp only [add_plain] at hx464_0 | skip)
     obtain ⟨hx21_0, hf21_0⟩ := Kd.R_celln 0 HO_0.out (x3_1 : Int) p21 q21
     replace p21 := eq_true p21
     replace q21 := eq_true q21
     have HP25 := Kd.R_putn HO_0.out (x3_1 : Int) (rd l0 x4_2)
     rw [← Ny465.out] at HP25
     have HQ25 := Aside0.mk HP25
     clear HP25
     have p22 : 0 ≤ (x4_2 : Int) := of_decide_eq_true (by first | (with_reducible assumption) | assumption)
     have q22 : (x4_2 : Int) < ((l0.length : Int) : Int) := of_decide_eq_true (by first | (with_reducible assumption) | assumption)
     obtain ⟨hx22_0, hf22_0⟩ := Kd.R_celln 0 HQ25.out (x4_2 : Int) p22 q22
     replace p22 := eq_true p22
     replace q22 := eq_true q22
     have HP26 := Kd.R_putn HQ25.out (x4_2 : Int) (rd l0 x3_1)
     rw [← Ny466.out] at HP26
     have HQ26 := Aside0.mk HP26
     clear HP26
     refine start_ (n := 16) (S := fun w' => w'.cell? ⟨go21, (x4_2).toNat, none⟩ = some (.int .i64 (rd l0 x4_2)) ∧ w'.cell? ⟨go21, (x3_1).toNat, none⟩ = some (.int .i64 (rd l0 x3_1))) (ds := [13, 15]) q57_29 (by kernel_rfl) rfl rfl ⟨hx463_0, hx464_0⟩ (fun hHeld => ?_); refine with_tabW impl_nextOrder.tab9 impl_nextOrder.bits9 (fun HT_ HW_ => ?_)
     generalize w23.drew = w24 at HO_0 HK HB GG21 HQ25 HQ26 hf21_0 hf22_0 hx21_0 hx22_0 hx461_0 hx462_0 hx463_0 hx464_0 hHeld ⊢
     refine pw_ HT_ 0 (some 42) ?_
     refine pw_ HT_ 1 (some 43) ?_
     refine pw_ HT_ 2 (some 44) ?_
     refine pw_ HT_ 3 (some 45) ?_
     refine pw_ HT_ 4 (some 46) ?_
     refine pw_ HT_ 5 (some 47) ?_
     refine pw_ HT_ 6 (some 48) ?_
     refine pw_ HT_ 8 (some 50) ?_
     refine pw_ HT_ 9 (some 51) ?_
     refine pw_ HT_ 10 (some 52) ?_
     refine take_ (i := 7) (N := some 49) (v := ?_) (a' := ?_) q57_40 rfl rfl (take_ofW HT_.out HW_.out (by kernel_rfl)) (fun _ _ _ h => h) (Or.inl ⟨by rfl, ?_⟩) hHeld ?_ ?_
     rotate_left
     ·rintro w' ⟨s0, s1⟩
      go_simp
      with_reducible rfl
     rotate_left
     ·simp only [aq_]
      rfl
     refine take_ (i := 11) (N := some 53) (v := ?_) (a' := ?_) q57_41 rfl rfl (take_ofW HT_.out HW_.out (by kernel_rfl)) (fun _ _ _ h => h) (Or.inl ⟨by rfl, ?_⟩) hHeld ?_ ?_
     rotate_left
     ·rintro w' ⟨s0, s1⟩
      go_simp
      with_reducible rfl
     rotate_left
     ·simp only [aq_]
      rfl
     refine pw_ HT_ 12 (some 54) ?_
     refine last_ (i := 13) (N := none) q57_43 rfl rfl (one_of HT_.out (by kernel_rfl)) (by decide) (fun K hK => ?_)
     refine skip_ (w1 := ?_) (by rfl) rfl ?_ ?_
     rotate_left
     ·go_simp
      rfl
     refine hK.out _ _ ?_
     clear hK K
     refine pw_ HT_ 14 (some 55) ?_
     refine last_ (i := 15) (N := none) q57_45 rfl rfl (one_of HT_.out (by kernel_rfl)) (by decide) (fun K hK => ?_)
     refine skip_ (w1 := ?_) (by rfl) rfl ?_ ?_
     rotate_left
     ·go_simp
      rfl
     refine hK.out _ _ ?_
     clear hK K
     refine done_ (done_of HT_.out (by kernel_rfl)) ?_
     try go_wp2
     go_loopg [5, 6] k2 (fun kq v5 v6 w' => ∃ (x0_3 : List Int) (x5_3 : Int) (x6_3 : Int), v5 = .int .i64 x5_3 ∧ v6 = .int .i64 x6_3 ∧ Aside0 (impl_nextOrder.l2 kq x0_3 x5_3 x6_3 = some (r1, r2)) ∧ Aside0 (kq ≤ k2) ∧ Aside0 (Kd.R (Kd.int .i64) 3 w' w0.heap.size (fun k_ => (P0_ k_ ∨ w.heap.size ≤ k_)) (.slice (some ⟨go21, 0, none⟩) l0.length co3) x0_3) ∧ Aside0 (Kept w w' (fun k_ => P0_ k_)) ∧ Aside0 (Below w0.heap.size w0 w'))
     case atStart => exact ⟨(y466), (wrap64 (x3_1 + 1)), (wrap64 ((l0.length : Int) - 1)), (by first | rfl | (simp; done) | (simp [*]; done)), (by first | rfl | (simp; done) | (simp [*]; done)), H', ⟨Nat.le_refl _⟩, ⟨bR HQ26.out⟩, ⟨by repeat (first | (with_reducible first | exact HK.out | apply Kept.alloc | apply Kept.drewN | apply Kept.drew | refine Kept.setCell ?_ HMgo21.out _ | refine Kept.setCell ?_ HMgo21.out _) | exact HK.out)⟩, ⟨by repeat (first | (with_reducible first | exact HB.out | apply below_alloc | apply pw_below_drewN | apply below_drew1 | refine below_set ?_ GB21.out | refine below_set ?_ GB21.out) | exact HB.out)⟩⟩
     case round =>
      clear H'
      try clear c1
      try clear p2
      try clear q2
      try clear hx2
      try clear hf2
      try clear c4
      try clear c4b0
      try clear p4
      try clear q4
      try clear hx4
      try clear c5
      try clear c5b0
      try clear c6
      try clear c6b0
      try clear p6
      try clear c8
      try clear c8b0
      try clear c9
      try clear c9b0
      try clear c10
      try clear c10b0
      try clear c14
      try clear c14b0
      try clear c15
      try clear c15b0
      try clear c16
      try clear c16b0
      try clear c17
      try clear c17b0
      try clear c18
      try clear c18b0
      try clear c19
      try clear c19b0
      try clear p21
      try clear q21
      try clear hx21
      try clear hf21
      try clear p22
      try clear q22
      try clear hx22
      try clear hf22
      try clear hx21_0
      try clear hx22_0
      try clear hx459_0
      try clear hx460_0
      try clear hx461_0
      try clear hx462_0
      try clear hx463_0
      try clear hx464_0
      try clear p2
      try clear p21
      try clear p22
      try clear p4
      try clear p459
      try clear p460
      try clear p461
      try clear p462
      try clear p463
      try clear p464
      try clear p6
      try clear q21
      try clear q22
      try clear q4
      try clear q459
      try clear q460
      try clear q461
      try clear q462
      try clear q463
      try clear q464
      obtain ⟨x0_3, x5_3, x6_3, rfl, rfl, HA, HK3, HO_0, HK, HB⟩ := hrel
      have hl0_3 := (Kd.R_reads' HO_0.out).1
      rw [hl0_3] at HO_0
      (try simp only [hl0_3])
      cases gk with
      | zero => exact absurd HA.out (by simp [impl_nextOrder.l2])
      | succ k3 =>
       have H := HA.out
       clear HA
       simp only [impl_nextOrder.l2] at H
       by_cases c27 : x5_3 < x6_3
       rotate_left
       ·rw [if_neg c27] at H
        have c27b0 : decide (x5_3 < x6_3) = false := decide_eq_false c27
        clear c27
        simp only [Option.some.injEq, Prod.mk.injEq] at H
        obtain ⟨rfl, rfl⟩ := H
        go_wp2
        go_ret
        exact ⟨by first | rfl | (simp [errW_none, errW_some] <;> rfl) | (simp [*, errW_none, errW_some] <;> rfl), (by first | exact (bR HO_0.out) | (simp only [hl0_3]; exact (bR HO_0.out))), bw HB.out, by repeat (first | (with_reducible first | exact HK.out | apply Kept.alloc | apply Kept.drewN | apply Kept.drew) | exact HK.out)⟩
       rw [if_pos c27] at H
       have c27b0 : decide (x5_3 < x6_3) = true := decide_eq_true c27
       clear c27
       by_cases c28 : 0 ≤ x6_3
       rotate_left
       ·rw [if_neg c28] at H
        exact absurd H (by simp)
       rw [if_pos c28] at H
       have c28b0 : decide (0 ≤ x6_3) = true := decide_eq_true c28
       clear c28
       by_cases c29 : x6_3 < (x0_3.length : Int)
       rotate_left
       ·rw [if_neg c29] at H
        exact absurd H (by simp)
       rw [if_pos c29] at H
       have c29b0 : decide (x6_3 < (x0_3.length : Int)) = true := decide_eq_true c29
       clear c29
       by_cases c30 : 0 ≤ x5_3
       rotate_left
       ·rw [if_neg c30] at H
        exact absurd H (by simp)
       rw [if_pos c30] at H
       have c30b0 : decide (0 ≤ x5_3) = true := decide_eq_true c30
       clear c30
       by_cases c31 : x5_3 < (x0_3.length : Int)
       rotate_left
       ·rw [if_neg c31] at H
        exact absurd H (by simp)
       rw [if_pos c31] at H
       have c31b0 : decide (x5_3 < (x0_3.length : Int)) = true := decide_eq_true c31
       clear c31
       obtain ⟨y469, hy469⟩ : ∃ y_ : List Int, y_ = (x0_3.set (x5_3 : Int).toNat (rd x0_3 x6_3)) := ⟨_, rfl⟩
       replace H : (impl_nextOrder.l2 k3 (y469.set (x6_3 : Int).toNat (rd x0_3 x5_3)) (wrap64 (x5_3 + 1)) (wrap64 (x6_3 - 1))) = some (r1, r2) := by first | (rw [hy469]; with_reducible exact H) | (have H2_ := (Option.bind_some _ _).symm.trans H; rw [hy469]; with_reducible exact H2_) | (have H2_ := (Option.bind_some _ _).symm.trans H; with_reducible exact H2_) | with_reducible exact H | (rw [hy469]; exact H) | exact H
       have Ny469 := Aside0.mk hy469
       clear hy469
       obtain ⟨y470, hy470⟩ : ∃ y_ : List Int, y_ = (y469.set (x6_3 : Int).toNat (rd x0_3 x5_3)) := ⟨_, rfl⟩
       replace H : (impl_nextOrder.l2 k3 y470 (wrap64 (x5_3 + 1)) (wrap64 (x6_3 - 1))) = some (r1, r2) := by first | (rw [hy470]; with_reducible exact H) | (have H2_ := (Option.bind_some _ _).symm.trans H; rw [hy470]; with_reducible exact H2_) | (have H2_ := (Option.bind_some _ _).symm.trans H; with_reducible exact H2_) | with_reducible exact H | (rw [hy470]; exact H) | exact H
       have Ny470 := Aside0.mk hy470
       clear hy470
       have H' := Aside0.mk H
       clear H
       try go_wp2
       have n0_ := Aside0.mk (Kd.R_drew HO_0.out)
       have n1_ := Aside0.mk (Kept.drew HK.out)
       have n2_ := Aside0.mk (below_drew1 HB.out)
       replace HO_0 := n0_
       replace HK := n1_
       replace HB := n2_
       clear n0_ n1_ n2_
       have p467 : 0 ≤ (x6_3 : Int) := of_decide_eq_true (by first | (with_reducible assumption) | assumption)
       have q467 : x6_3 < (x0_3.length : Int) := of_decide_eq_true (by first | (with_reducible assumption) | assumption)
       obtain ⟨ad467, e467, hx467_0⟩ := Kd.at_int (Kd.R_reads' HO_0.out).2.2 x6_3 p467 q467
       obtain rfl : (⟨go21, 0, none⟩ : Addr) = ad467 := (by injection e467)
       (first | simp only [add_plain] at hx467_0 | simp only [add_at] at hx467_0 | simp only [Addr.add, Nat.zero_add] at hx467_0 | skip)
       replace p467 := eq_true p467
       replace q467 := eq_true q467
       have p468 : 0 ≤ (x5_3 : Int) := of_decide_eq_true (by first | (with_reducible assumption) | assumption)
       have q468 : x5_3 < (x0_3.length : Int) := of_decide_eq_true (by first | (with_reducible assumption) | assumption)
       obtain ⟨ad468, e468, hx468_0⟩ := Kd.at_int (Kd.R_reads' HO_0.out).2.2 x5_3 p468 q468
       obtain rfl : (⟨go21, 0, none⟩ : Addr) = ad468 := (by injection e468)
       (first | simp only [add_plain] at hx468_0 | simp only [add_at] at hx468_0 | simp only [Addr.add, Nat.zero_add] at hx468_0 | skip)
       replace p468 := eq_true p468
       replace q468 := eq_true q468
       have p32 : 0 ≤ (x5_3 : Int) := of_decide_eq_true (by first | (with_reducible assumption) | assumption)
       have q32 : (x5_3 : Int) < ((x0_3.length : Int) : Int) := of_decide_eq_true (by first | (with_reducible assumption) | assumption)
       obtain ⟨hx32_0, hf32_0⟩ := Kd.R_celln 0 HO_0.out (x5_3 : Int) p32 q32
       replace p32 := eq_true p32
       replace q32 := eq_true q32
       have HP35 := Kd.R_putn HO_0.out (x5_3 : Int) (rd x0_3 x6_3)
       rw [← Ny469.out] at HP35
       have HQ35 := Aside0.mk HP35
       clear HP35
       have p33 : 0 ≤ (x6_3 : Int) := of_decide_eq_true (by first | (with_reducible assumption) | assumption)
       have q33 : (x6_3 : Int) < ((x0_3.length : Int) : Int) := of_decide_eq_true (by first | (with_reducible assumption) | assumption)
       obtain ⟨hx33_0, hf33_0⟩ := Kd.R_celln 0 HQ35.out (x6_3 : Int) p33 q33
       replace p33 := eq_true p33
       replace q33 := eq_true q33
       have HP36 := Kd.R_putn HQ35.out (x6_3 : Int) (rd x0_3 x5_3)
       rw [← Ny470.out] at HP36
       have HQ36 := Aside0.mk HP36
       clear HP36
       refine start_ (n := 16) (S := fun w' => w'.cell? ⟨go21, (x6_3).toNat, none⟩ = some (.int .i64 (rd x0_3 x6_3)) ∧ w'.cell? ⟨go21, (x5_3).toNat, none⟩ = some (.int .i64 (rd x0_3 x5_3))) (ds := [13, 15]) q57_29 (by kernel_rfl) rfl rfl ⟨hx467_0, hx468_0⟩ (fun hHeld => ?_); refine with_tabW impl_nextOrder.tab13 impl_nextOrder.bits13 (fun HT_ HW_ => ?_)
       generalize wr.drew = w34 at HO_0 HK HB HQ35 HQ36 hf32_0 hf33_0 hx32_0 hx33_0 hx467_0 hx468_0 hHeld ⊢
       refine pw_ HT_ 0 (some 68) ?_
       refine pw_ HT_ 1 (some 69) ?_
       refine pw_ HT_ 2 (some 70) ?_
       refine pw_ HT_ 3 (some 71) ?_
       refine pw_ HT_ 4 (some 72) ?_
       refine pw_ HT_ 5 (some 73) ?_
       refine pw_ HT_ 6 (some 74) ?_
       refine pw_ HT_ 8 (some 76) ?_
       refine pw_ HT_ 9 (some 77) ?_
       refine pw_ HT_ 10 (some 78) ?_
       refine take_ (i := 7) (N := some 75) (v := ?_) (a' := ?_) q57_40 rfl rfl (take_ofW HT_.out HW_.out (by kernel_rfl)) (fun _ _ _ h => h) (Or.inl ⟨by rfl, ?_⟩) hHeld ?_ ?_
       rotate_left
       ·rintro w' ⟨s0, s1⟩
        go_simp
        with_reducible rfl
       rotate_left
       ·simp only [aq_]
        rfl
       refine take_ (i := 11) (N := some 79) (v := ?_) (a' := ?_) q57_41 rfl rfl (take_ofW HT_.out HW_.out (by kernel_rfl)) (fun _ _ _ h => h) (Or.inl ⟨by rfl, ?_⟩) hHeld ?_ ?_
       rotate_left
       ·rintro w' ⟨s0, s1⟩
        go_simp
        with_reducible rfl
       rotate_left
       ·simp only [aq_]
        rfl
       refine pw_ HT_ 12 (some 80) ?_
       refine last_ (i := 13) (N := none) q57_43 rfl rfl (one_of HT_.out (by kernel_rfl)) (by decide) (fun K hK => ?_)
       refine skip_ (w1 := ?_) (by rfl) rfl ?_ ?_
       rotate_left
       ·go_simp
        rfl
       refine hK.out _ _ ?_
       clear hK K
       refine pw_ HT_ 14 (some 81) ?_
       refine last_ (i := 15) (N := none) q57_45 rfl rfl (one_of HT_.out (by kernel_rfl)) (by decide) (fun K hK => ?_)
       refine skip_ (w1 := ?_) (by rfl) rfl ?_ ?_
       rotate_left
       ·go_simp
        rfl
       refine hK.out _ _ ?_
       clear hK K
       refine done_ (done_of HT_.out (by kernel_rfl)) ?_
       try go_wp2
       (try simp only [← hl0_3])
       go_roundg k3
       case measure => have := HJ1.out; have := HK2.out; have := HK3.out; omega
       case rel => exact ⟨(y470), (wrap64 (x5_3 + 1)), (wrap64 (x6_3 - 1)), (by first | rfl | (simp; done) | (simp [*]; done)), (by first | rfl | (simp; done) | (simp [*]; done)), H', ⟨by have := HJ1.out; have := HK2.out; have := HK3.out; omega⟩, ⟨by (try simp only [hl0_3]); (with_reducible repeat (first | apply Kd.R_alloc | apply Kd.R_drewN | apply Kd.R_drew)); exact HQ36.out⟩, ⟨by repeat (first | (with_reducible first | exact HK.out | apply Kept.alloc | apply Kept.drewN | apply Kept.drew | refine Kept.setCell ?_ HMgo21.out _ | refine Kept.setCell ?_ HMgo21.out _) | exact HK.out)⟩, ⟨by repeat (first | (with_reducible first | exact HB.out | apply below_alloc | apply pw_below_drewN | apply below_drew1 | refine below_set ?_ GB21.out | refine below_set ?_ GB21.out) | exact HB.out)⟩⟩

/-! ### impl_eachOrder: function 41 -/
def impl_eachOrder.f (k : Nat) (n : Int) : Option Int := none   -- (its function value is not in the printed shape: callers are written by hand)
/-- All orders from one on, told one after the other. -/
def impl_eachOrder.run {σ : Type} (step : Nat → List Int → σ → Option σ) : Nat → List Int → σ → Option σ
 | 0, _, _ => none
 | k + 1, o, s => (step k o s).bind fun s1 => (impl_nextOrder.f k o).bind fun t => if t.1 = true then impl_eachOrder.run step k t.2 s1 else some s1
theorem impl_eachOrder.run_mono {σ : Type} {step : Nat → List Int → σ → Option σ} (hs : ∀ k o s, LeO (step k o s) (step (k + 1) o s)) : ∀ k o s, LeO (impl_eachOrder.run step k o s) (impl_eachOrder.run step (k + 1) o s)
 | 0, o, s => LeO.none _
 | k + 1, o, s => by
  rw [impl_eachOrder.run, impl_eachOrder.run]
  exact LeO.bind (hs k o s) (fun _ => LeO.bind (impl_nextOrder.mono o k) (fun _ => LeO.ite (impl_eachOrder.run_mono hs k _ _) (LeO.refl _)))
set_option maxHeartbeats 1600000 in
set_option maxRecDepth 100000 in
theorem impl_eachOrder.calls {σ : Type} (g : Nat) (lb : Array Value) (step : Nat → List Int → σ → Option σ) (Inv : Value → σ → World → Prop) (Bx : Nat → Prop) (k : Nat) (n : Int) (o : List Int) (s r : σ) (w0 w : World) (hB : Below w0.heap.size w0 w) (hsz : w0.heap.size ≤ w.heap.size)
  (heg : ∀ args w, (callFunc g args).run Try.prog w = .ok (.enter g args) w)
  (hBx : ∀ b, Bx b → b < w.heap.size)
  (htell : ∀ (k : Nat) (A : Option Addr) (c : Nat) (q : List Int) (st st' : σ) (W : World), Below w0.heap.size w0 W → w.heap.size ≤ W.heap.size → (∀ b, (Value.slice A q.length c).ownBlock = some b → w.heap.size ≤ b ∧ b < W.heap.size) → Kd.C (Kd.int .i64) W A q.length q → q.length ≤ c → Inv (.slice A q.length c) st W → step k q st = some st' →
   Calls Try.prog g (#[.slice A q.length c] ++ lb) W fun e w' => e = .returned (.tuple #[]) ∧ Inv (.slice A q.length c) st' w' ∧ Below w0.heap.size w0 w' ∧ Kept W w' Bx)
  (hstab : ∀ u st W W', Inv u st W → (∀ b, u.ownBlock = some b → w.heap.size ≤ b) → Kept W W' (fun b => some b = u.ownBlock) → Inv u st W')
  (hinit : ∀ u W, Below w.heap.size w W → (∀ b, u.ownBlock = some b → w.heap.size ≤ b) → Inv u s W)
  (hn : impl_numbersTo.f k n = some o) (h : impl_eachOrder.run step k o s = some r) :
  Calls Try.prog 41 #[.int .i64 n, .func (.func g) #[] lb] w fun e w' => e = .returned (.tuple #[]) ∧ (∃ u, Inv u r w') ∧ Below w0.heap.size w0 w' := by
 have HB := Aside0.mk hB
 have HEG := Aside0.mk heg
 have HBX := Aside0.mk hBx
 have HTELL := Aside0.mk htell
 have HSTAB := Aside0.mk hstab
 have HINIT := Aside0.mk hinit
 have HN := Aside0.mk hn
 have H' := Aside0.mk h
 have HSZ := Aside0.mk hsz
 clear hB heg hBx htell hstab hinit hn h hsz
 go_enter Try.func41, Try.ntmps41
 go_wp2_with ((with_reducible refine (impl_numbersTo.calls k n o _ HN.out).mono ?_); rintro e w1 ⟨v1, rfl, hR1, hB1⟩; have HU := Aside0.mk (Kd.R_base hR1); have HR := Aside0.mk (Kd.R_lower (Kd.R_tight (by rfl) hR1) HSZ.out); have HI := Aside0.mk (HINIT.out v1 w1 hB1 (Kd.R_base hR1)); have HW := Aside0.mk hB1.size; have n0 := Aside0.mk (below_step HB.out hB1); replace HB := n0; clear n0 hR1 hB1; obtain ⟨A1, c1, e1⟩ := Kd.R_slice HR.out; subst e1)
 go_loopg [12] k (fun kq v12 w' => ∃ (q : List Int) (st : σ), Aside0 (q.length = o.length) ∧ Aside0 (impl_eachOrder.run step kq q st = some r) ∧ Aside0 (kq ≤ k) ∧ Aside0 (Kd.R (Kd.int .i64) 3 w' w0.heap.size (fun b => some b = (Value.slice A1 o.length c1).ownBlock) (.slice A1 o.length c1) q) ∧ Aside0 (Inv (.slice A1 o.length c1) st w') ∧ Aside0 (w.heap.size ≤ w'.heap.size) ∧ Aside0 (Below w0.heap.size w0 w'))
 case atStart => exact ⟨o, s, ⟨rfl⟩, H', ⟨Nat.le_refl _⟩, ⟨Kd.R_mono HR.out (fun _ hk => hk)⟩, HI, HW, HB⟩
 case round =>
  clear H' HB HR HI HW
  obtain ⟨q, st, HQ, HA, HK, HR, HI, HW, HB⟩ := hrel
  cases gk with
  | zero => exact absurd HA.out (by simp [impl_eachOrder.run])
  | succ k1 =>
   have H := HA.out
   clear HA
   rw [impl_eachOrder.run] at H
   replace H := Option.bind_eq_some_iff.mp H
   obtain ⟨s1, hs1, H⟩ := H
   replace H := Option.bind_eq_some_iff.mp H
   obtain ⟨t, ht, H⟩ := H
   obtain ⟨t1, t2⟩ := t
   have HNX := Aside0.mk ht
   have HF := Aside0.mk H
   have hc := HTELL.out k1 A1 c1 q st s1 wr HB.out HW.out (by rw [HQ.out]; exact fun b hb => ⟨HU.out b hb, Kd.R_lt HR.out b hb⟩) (Kd.R_reads' HR.out).2.2 (by rw [HQ.out]; exact (Kd.R_reads' HR.out).2.1) (by rw [HQ.out]; exact HI.out) hs1
   rw [HQ.out] at hc
   have HCALL := Aside0.mk hc
   have eg := HEG.out
   clear hc hs1 ht H HI
   cases t1 with
   | false =>
    have hf := HF.out
    simp only [Bool.false_eq_true, if_false, Option.some.injEq] at hf
    subst hf
    clear HF
    go_wp2_with (first | ((with_reducible refine (HCALL.out).mono ?_); rintro e w5 ⟨rfl, hI, hb, hk⟩; have HI := Aside0.mk hI; have n0 := Aside0.mk (Kd.R_kept HR.out hk (fun b hb1 hb2 => absurd (HU.out b hb1.symm) (by have := HBX.out b hb2; omega))); have n1 := Aside0.mk (Nat.le_trans HW.out hk.1); replace HR := n0; replace HW := n1; replace HB := Aside0.mk hb; clear hI hb hk n0 n1 HCALL) | ((with_reducible refine (impl_nextOrder.calls k1 (fun b => some b = (Value.slice A1 o.length c1).ownBlock) (.slice A1 o.length c1) q _ t2 w0 _ HB.out HR.out HNX.out).mono ?_); rintro e w6 ⟨rfl, hR, hb, hk⟩; have n0 := Aside0.mk (HSTAB.out _ _ _ _ HI.out HU.out hk); have n1 := Aside0.mk (Kd.R_mono (Kd.R_tight (by rfl) hR) (fun _ hk => hk)); have n2 := Aside0.mk (Nat.le_trans HW.out hk.1); replace HI := n0; replace HR := n1; replace HW := n2; replace HB := Aside0.mk hb; clear n0 n1 n2 hR hb hk))
    refine bodyPost_ret (results_none rfl _ _ _) rfl ?_
    exact ⟨rfl, ⟨_, HI.out⟩, HB.out⟩
   | true =>
    have HF2 : Aside0 (impl_eachOrder.run step k1 t2 s1 = some r) := ⟨by have hf := HF.out; rwa [if_pos rfl] at hf⟩
    clear HF
    go_wp2_with (first | ((with_reducible refine (HCALL.out).mono ?_); rintro e w5 ⟨rfl, hI, hb, hk⟩; have HI := Aside0.mk hI; have n0 := Aside0.mk (Kd.R_kept HR.out hk (fun b hb1 hb2 => absurd (HU.out b hb1.symm) (by have := HBX.out b hb2; omega))); have n1 := Aside0.mk (Nat.le_trans HW.out hk.1); replace HR := n0; replace HW := n1; replace HB := Aside0.mk hb; clear hI hb hk n0 n1 HCALL) | ((with_reducible refine (impl_nextOrder.calls k1 (fun b => some b = (Value.slice A1 o.length c1).ownBlock) (.slice A1 o.length c1) q _ t2 w0 _ HB.out HR.out HNX.out).mono ?_); rintro e w6 ⟨rfl, hR, hb, hk⟩; have n0 := Aside0.mk (HSTAB.out _ _ _ _ HI.out HU.out hk); have n1 := Aside0.mk (Kd.R_mono (Kd.R_tight (by rfl) hR) (fun _ hk => hk)); have n2 := Aside0.mk (Nat.le_trans HW.out hk.1); replace HI := n0; replace HR := n1; replace HW := n2; replace HB := Aside0.mk hb; clear n0 n1 n2 hR hb hk))
    go_roundg k1
    case measure => have := HK.out; omega
    case rel => exact ⟨t2, s1, ⟨(Kd.R_reads' HR.out).1.symm⟩, HF2, ⟨by have := HK.out; omega⟩, HR, HI, HW, HB⟩

/-! ### impl_best_1: function 42 -/
def impl_best_1.f (k : Nat) (n : Int) : Option Bool := none   -- (it has captured variables: not in the printed shape)
/-- What one order does: the first best one so far, its value, and how many there are. -/
def impl_best_1.step (l0 : List (S42)) (obj : Int) (k : Nat) (o : List Int) (s : List Int × Int × Int) : Option (List Int × Int × Int) :=
 (impl_valueOf.f k l0 o obj).bind fun v => if s.2.2 = 0 ∨ v < s.2.1 then (impl_copyInts.f o).bind fun q => some (q, v, 1) else if v = s.2.1 then some (s.1, s.2.1, wrap64 (s.2.2 + 1)) else some s
theorem impl_best_1.step_mono (l0 : List (S42)) (obj : Int) (k : Nat) (o : List Int) (s : List Int × Int × Int) : LeO (impl_best_1.step l0 obj k o s) (impl_best_1.step l0 obj (k + 1) o s) := LeO.bind (impl_valueOf.mono _ _ _ _) (fun _ => LeO.refl _)
/-- The closure's variables: jobs, objective, count, least, first, in blocks of their own; u: the order that is being told. -/
structure impl_best_1.Inv (w0 w : World) (A0 : Option Addr) (c0 : Nat) (l0 : List (S42)) (obj : Int) (g1 g2 g3 g4 g5 : Nat) (u : Value) (s : List Int × Int × Int) (W : World) : Prop where
 j : W.heap[g1]? = some (.cells #[.slice A0 l0.length c0] 24 (0, 0))
 o : W.heap[g2]? = some (.cells #[.int .i64 obj] 3 (0, 0))
 c : W.heap[g3]? = some (.cells #[.int .i64 s.2.2] 3 (0, 0))
 l : W.heap[g4]? = some (.cells #[.int .i64 s.2.1] 3 (0, 0))
 f : ∃ v, W.heap[g5]? = some (.cells #[v] 25 (0, 0)) ∧ Kd.R (Kd.int .i64) 3 W w.heap.size (fun k => some k ≠ u.ownBlock) v s.1
set_option maxRecDepth 100000 in
theorem impl_best_1.heg (args : Array Value) (w : World) : (callFunc 42 args).run Try.prog w = .ok (.enter 42 args) w := by
 first | (unfold callFunc; go_simp; done) | (unfold callFunc; go_simp; rfl) | rfl
set_option maxHeartbeats 3200000 in
set_option maxRecDepth 100000 in
theorem impl_best_1.tell (w0 w : World) (A0 : Option Addr) (c0 : Nat) (l0 : List (S42)) (obj : Int) (g1 g2 g3 g4 g5 : Nat) (hr0 : Kd.C k42 w0 A0 l0.length l0) (hc0 : l0.length ≤ c0)
  (hg1 : g1 < w.heap.size) (hg2 : g2 < w.heap.size) (hg3 : g3 < w.heap.size) (hg4 : g4 < w.heap.size) (hg5 : g5 < w.heap.size) (n13 : g1 ≠ g3) (n14 : g1 ≠ g4) (n15 : g1 ≠ g5) (n23 : g2 ≠ g3) (n24 : g2 ≠ g4) (n25 : g2 ≠ g5) (n34 : g3 ≠ g4) (n35 : g3 ≠ g5) (n45 : g4 ≠ g5)
  (b3 : w0.heap.size ≤ g3) (b4 : w0.heap.size ≤ g4) (b5 : w0.heap.size ≤ g5)
  (k : Nat) (A : Option Addr) (c : Nat) (q : List Int) (st st' : List Int × Int × Int) (W : World) (hB : Below w0.heap.size w0 W) (hsz : w.heap.size ≤ W.heap.size) (hu : ∀ b, (Value.slice A q.length c).ownBlock = some b → w.heap.size ≤ b ∧ b < W.heap.size) (hC : Kd.C (Kd.int .i64) W A q.length q) (hqc : q.length ≤ c)
  (hI : impl_best_1.Inv w0 w A0 c0 l0 obj g1 g2 g3 g4 g5 (.slice A q.length c) st W) (hs : impl_best_1.step l0 obj k q st = some st') :
  Calls Try.prog 42 (#[.slice A q.length c] ++ #[.pointer (some ⟨g1, 0, none⟩), .pointer (some ⟨g2, 0, none⟩), .pointer (some ⟨g3, 0, none⟩), .pointer (some ⟨g4, 0, none⟩), .pointer (some ⟨g5, 0, none⟩)]) W fun e w' => e = .returned (.tuple #[]) ∧ impl_best_1.Inv w0 w A0 c0 l0 obj g1 g2 g3 g4 g5 (.slice A q.length c) st' w' ∧ Below w0.heap.size w0 w' ∧ Kept W w' (fun b => b = g3 ∨ b = g4 ∨ b = g5) := by
 obtain ⟨s1, s2, s3⟩ := st
 obtain ⟨hj, ho, hc3, hl4, vf, hf5, hRf⟩ := hI
 simp only at hc3 hl4 hRf
 unfold impl_best_1.step at hs
 replace hs := Option.bind_eq_some_iff.mp hs
 obtain ⟨v, hv, hs⟩ := hs
 simp only at hs
 have HV := Aside0.mk hv
 have HR0 := Aside0.mk hr0
 have HC0 := Aside0.mk hc0
 have HB := Aside0.mk hB
 have HSZ := Aside0.mk hsz
 have HU := Aside0.mk hu
 have HC := Aside0.mk hC
 have HQC := Aside0.mk hqc
 have BJ := Aside0.mk hj
 have BO := Aside0.mk ho
 have BC := Aside0.mk hc3
 have BL := Aside0.mk hl4
 have BF := Aside0.mk hf5
 have HRF := Aside0.mk hRf
 have HK := Aside0.mk (Kept.refl W (fun b => b = g3 ∨ b = g4 ∨ b = g5))
 have HGS := Aside0.mk (show g1 < w.heap.size ∧ g2 < w.heap.size ∧ g3 < w.heap.size ∧ g4 < w.heap.size ∧ g5 < w.heap.size from ⟨hg1, hg2, hg3, hg4, hg5⟩)
 have HBS := Aside0.mk (show w0.heap.size ≤ g3 ∧ w0.heap.size ≤ g4 ∧ w0.heap.size ≤ g5 from ⟨b3, b4, b5⟩)
 have m34 := n34.symm
 have m35 := n35.symm
 have m45 := n45.symm
 obtain ⟨hcj, hfj⟩ := bz1 BJ.out
 obtain ⟨hco, hfo⟩ := bz1 BO.out
 obtain ⟨hcc, hfc⟩ := bz1 BC.out
 obtain ⟨hcl, hfl⟩ := bz1 BL.out
 obtain ⟨hcf, hff⟩ := bz1 BF.out
 clear hv hr0 hc0 hB hsz hu hC hqc hj ho hc3 hl4 hf5 hRf hg1 hg2 hg3 hg4 hg5 b3 b4 b5
 show Calls Try.prog 42 #[.slice A q.length c, .pointer (some ⟨g1, 0, none⟩), .pointer (some ⟨g2, 0, none⟩), .pointer (some ⟨g3, 0, none⟩), .pointer (some ⟨g4, 0, none⟩), .pointer (some ⟨g5, 0, none⟩)] W _
 by_cases h0 : s3 = 0 ∨ v < s2
 rotate_left
 ·rw [if_neg h0] at hs
  have h1 : ¬ s3 = 0 := fun h => h0 (Or.inl h)
  have h2 : ¬ v < s2 := fun h => h0 (Or.inr h)
  have d0 : (s3 == 0) = false := by simpa using h1
  have d1 : decide (v < s2) = false := decide_eq_false h2
  clear h0 h1 h2
  by_cases h3 : v = s2
  rotate_left
  ·rw [if_neg h3] at hs
   obtain rfl := Option.some.inj hs
   have d2 : (v == s2) = false := by simpa using h3
   clear hs h3
   go_enter Try.func42, Try.ntmps42
   go_wp2_with (first | ((with_reducible refine gate_callee (f := 28) rfl ?_); refine goesL_ (some 11) rfl rfl Try.func28 (by kernel_rfl) rfl #[.slice A0 l0.length c0, .slice A q.length c, .int .i64 obj] rfl (by (try simp only [mA_]); first | done | rfl) ?_; (with_reducible refine (impl_valueOf.calls k A0 c0 l0 A c q obj v _ ?s1 HC0.out ?s2 HQC.out HV.out).mono ?_); (case s1 => exact bC HR0.out HB.out); (case s2 => exact HC.out); rintro e w9 ⟨rfl, hb⟩; refine ⟨_, rfl, ?_⟩; have HCN := Aside0.mk (Kd.C_below HC.out hb); replace HC := HCN; clear HCN; have HSN := Aside0.mk (Nat.le_trans HSZ.out hb.size); replace HSZ := HSN; clear HSN; have HUN := Aside0.mk (show ∀ b, (Value.slice A q.length c).ownBlock = some b → w.heap.size ≤ b ∧ b < w9.heap.size from fun b h => ⟨(HU.out b h).1, Nat.lt_of_lt_of_le (HU.out b h).2 hb.size⟩); replace HU := HUN; clear HUN; have m1 := Aside0.mk (blk_below (bs BJ.out) hb); have m2 := Aside0.mk (blk_below (bs BO.out) hb); have m3 := Aside0.mk (blk_below (bs BC.out) hb); have m4 := Aside0.mk (blk_below (bs BL.out) hb); have m5 := Aside0.mk (blk_below (bs BF.out) hb); have m6 := Aside0.mk (Kd.R_below (bR HRF.out) hb); have m7 := Aside0.mk (below_step (bw HB.out) hb); have m8 := Aside0.mk (Kept.below HK.out hb); replace BJ := m1; replace BO := m2; replace BC := m3; replace BL := m4; replace BF := m5; replace HRF := m6; replace HB := m7; replace HK := m8; clear m1 m2 m3 m4 m5 m6 m7 m8 hb hcj hfj hco hfo hcc hfc hcl hfl hcf hff; obtain ⟨hcj, hfj⟩ := bz1 BJ.out; obtain ⟨hco, hfo⟩ := bz1 BO.out; obtain ⟨hcc, hfc⟩ := bz1 BC.out; obtain ⟨hcl, hfl⟩ := bz1 BL.out; obtain ⟨hcf, hff⟩ := bz1 BF.out))
   go_end0
   exact ⟨rfl, ⟨BJ.out, BO.out, BC.out, BL.out, ⟨vf, BF.out, HRF.out⟩⟩, HB.out, HK.out⟩
  rw [if_pos h3] at hs
  obtain rfl := Option.some.inj hs
  subst h3
  have d2 : (v == v) = true := by simp
  clear hs
  go_enter Try.func42, Try.ntmps42
  go_wp2_with (first | ((with_reducible refine gate_callee (f := 28) rfl ?_); refine goesL_ (some 11) rfl rfl Try.func28 (by kernel_rfl) rfl #[.slice A0 l0.length c0, .slice A q.length c, .int .i64 obj] rfl (by (try simp only [mA_]); first | done | rfl) ?_; (with_reducible refine (impl_valueOf.calls k A0 c0 l0 A c q obj v _ ?s1 HC0.out ?s2 HQC.out HV.out).mono ?_); (case s1 => exact bC HR0.out HB.out); (case s2 => exact HC.out); rintro e w9 ⟨rfl, hb⟩; refine ⟨_, rfl, ?_⟩; have HCN := Aside0.mk (Kd.C_below HC.out hb); replace HC := HCN; clear HCN; have HSN := Aside0.mk (Nat.le_trans HSZ.out hb.size); replace HSZ := HSN; clear HSN; have HUN := Aside0.mk (show ∀ b, (Value.slice A q.length c).ownBlock = some b → w.heap.size ≤ b ∧ b < w9.heap.size from fun b h => ⟨(HU.out b h).1, Nat.lt_of_lt_of_le (HU.out b h).2 hb.size⟩); replace HU := HUN; clear HUN; have m1 := Aside0.mk (blk_below (bs BJ.out) hb); have m2 := Aside0.mk (blk_below (bs BO.out) hb); have m3 := Aside0.mk (blk_below (bs BC.out) hb); have m4 := Aside0.mk (blk_below (bs BL.out) hb); have m5 := Aside0.mk (blk_below (bs BF.out) hb); have m6 := Aside0.mk (Kd.R_below (bR HRF.out) hb); have m7 := Aside0.mk (below_step (bw HB.out) hb); have m8 := Aside0.mk (Kept.below HK.out hb); replace BJ := m1; replace BO := m2; replace BC := m3; replace BL := m4; replace BF := m5; replace HRF := m6; replace HB := m7; replace HK := m8; clear m1 m2 m3 m4 m5 m6 m7 m8 hb hcj hfj hco hfo hcc hfc hcl hfl hcf hff; obtain ⟨hcj, hfj⟩ := bz1 BJ.out; obtain ⟨hco, hfo⟩ := bz1 BO.out; obtain ⟨hcc, hfc⟩ := bz1 BC.out; obtain ⟨hcl, hfl⟩ := bz1 BL.out; obtain ⟨hcf, hff⟩ := bz1 BF.out))
  have hgs := HGS.out
  have hbs := HBS.out
  have hnb := Kd.R_bound HRF.out
  go_end0
  refine ⟨rfl, ⟨?_, ?_, ?_, ?_, ⟨vf, ?_, ?_⟩⟩, below_set HB.out hbs.1, Kept.setCell HK.out (Or.inl (Or.inl rfl)) _⟩
  ·exact blk_far BJ.out n13 _
  ·exact blk_far BO.out n23 _
  ·refine blk_put (cs := #[.int .i64 s3]) ?_ 0 _ rfl
   exact BC.out
  ·exact blk_far BL.out m34 _
  ·exact blk_far BF.out m35 _
  ·refine Kd.R_mono (Kd.R_far (p := ⟨g3, 0, none⟩) hnb (fun b hb e => ?_) _) (fun _ h => h.1)
   have := hb.2.1; have e2 : b = g3 := e; omega
 rw [if_pos h0] at hs
 replace hs := Option.bind_eq_some_iff.mp hs
 obtain ⟨q2, hq2, hs⟩ := hs
 obtain rfl := Option.some.inj hs
 have HQ2 := Aside0.mk hq2
 clear hs hq2
 by_cases h1 : s3 = 0
 ·subst h1
  clear h0
  go_enter Try.func42, Try.ntmps42
  go_wp2_with (first | ((with_reducible refine gate_callee (f := 28) rfl ?_); refine goesL_ (some 11) rfl rfl Try.func28 (by kernel_rfl) rfl #[.slice A0 l0.length c0, .slice A q.length c, .int .i64 obj] rfl (by (try simp only [mA_]); first | done | rfl) ?_; (with_reducible refine (impl_valueOf.calls k A0 c0 l0 A c q obj v _ ?s1 HC0.out ?s2 HQC.out HV.out).mono ?_); (case s1 => exact bC HR0.out HB.out); (case s2 => exact HC.out); rintro e w9 ⟨rfl, hb⟩; refine ⟨_, rfl, ?_⟩; have HCN := Aside0.mk (Kd.C_below HC.out hb); replace HC := HCN; clear HCN; have HSN := Aside0.mk (Nat.le_trans HSZ.out hb.size); replace HSZ := HSN; clear HSN; have HUN := Aside0.mk (show ∀ b, (Value.slice A q.length c).ownBlock = some b → w.heap.size ≤ b ∧ b < w9.heap.size from fun b h => ⟨(HU.out b h).1, Nat.lt_of_lt_of_le (HU.out b h).2 hb.size⟩); replace HU := HUN; clear HUN; have m1 := Aside0.mk (blk_below (bs BJ.out) hb); have m2 := Aside0.mk (blk_below (bs BO.out) hb); have m3 := Aside0.mk (blk_below (bs BC.out) hb); have m4 := Aside0.mk (blk_below (bs BL.out) hb); have m5 := Aside0.mk (blk_below (bs BF.out) hb); have m6 := Aside0.mk (Kd.R_below (bR HRF.out) hb); have m7 := Aside0.mk (below_step (bw HB.out) hb); have m8 := Aside0.mk (Kept.below HK.out hb); replace BJ := m1; replace BO := m2; replace BC := m3; replace BL := m4; replace BF := m5; replace HRF := m6; replace HB := m7; replace HK := m8; clear m1 m2 m3 m4 m5 m6 m7 m8 hb hcj hfj hco hfo hcc hfc hcl hfl hcf hff; obtain ⟨hcj, hfj⟩ := bz1 BJ.out; obtain ⟨hco, hfo⟩ := bz1 BO.out; obtain ⟨hcc, hfc⟩ := bz1 BC.out; obtain ⟨hcl, hfl⟩ := bz1 BL.out; obtain ⟨hcf, hff⟩ := bz1 BF.out) | ((with_reducible refine gate_callee (f := 16) rfl ?_); refine goesL_ (some 21) rfl rfl Try.func16 (by kernel_rfl) rfl #[.slice A q.length c] rfl (by (try simp only [mA_]); first | done | rfl) ?_; (with_reducible refine (impl_copyInts.calls A c q q2 _ HC.out HQC.out HQ2.out).mono ?_); rintro e w21 ⟨v21, rfl, hR, hb⟩; refine ⟨_, rfl, ?_⟩; have HN := Aside0.mk (Kd.R_lower (Kd.R_mono (ok' := fun b => some b ≠ (Value.slice A q.length c).ownBlock) (Kd.R_bound hR) (fun b hb1 e => absurd (HU.out b e.symm).2 (by have := hb1.2.1; omega))) HSZ.out); have HSN := Aside0.mk (Nat.le_trans HSZ.out hb.size); replace HSZ := HSN; clear HSN hR; have m1 := Aside0.mk (blk_below (bs BJ.out) hb); have m2 := Aside0.mk (blk_below (bs BO.out) hb); have m3 := Aside0.mk (blk_below (bs BC.out) hb); have m4 := Aside0.mk (blk_below (bs BL.out) hb); have m5 := Aside0.mk (blk_below (bs BF.out) hb); have m6 := Aside0.mk (Kd.R_below (bR HRF.out) hb); have m7 := Aside0.mk (below_step (bw HB.out) hb); have m8 := Aside0.mk (Kept.below HK.out hb); replace BJ := m1; replace BO := m2; replace BC := m3; replace BL := m4; replace BF := m5; replace HRF := m6; replace HB := m7; replace HK := m8; clear m1 m2 m3 m4 m5 m6 m7 m8 hb hcj hfj hco hfo hcc hfc hcl hfl hcf hff; obtain ⟨hcj, hfj⟩ := bz1 BJ.out; obtain ⟨hco, hfo⟩ := bz1 BO.out; obtain ⟨hcc, hfc⟩ := bz1 BC.out; obtain ⟨hcl, hfl⟩ := bz1 BL.out; obtain ⟨hcf, hff⟩ := bz1 BF.out; obtain ⟨A21, c21, e21⟩ := Kd.R_slice HN.out; subst e21))
  have hgs := HGS.out
  have hbs := HBS.out
  have hnb := Kd.R_bound HN.out
  go_end0
  refine ⟨rfl, ⟨?_, ?_, ?_, ?_, ⟨.slice A21 q2.length c21, ?_, ?_⟩⟩, below_set (below_set (below_set HB.out hbs.2.2) hbs.2.1) hbs.1, Kept.setCell (Kept.setCell (Kept.setCell HK.out (Or.inl (Or.inr (Or.inr rfl))) _) (Or.inl (Or.inr (Or.inl rfl))) _) (Or.inl (Or.inl rfl)) _⟩
  ·exact blk_far (blk_far (blk_far BJ.out n15 _) n14 _) n13 _
  ·exact blk_far (blk_far (blk_far BO.out n25 _) n24 _) n23 _
  ·exact blk_put (blk_far (blk_far BC.out n35 _) n34 _) 0 _ rfl
  ·exact blk_far (blk_put (blk_far BL.out n45 _) 0 _ rfl) m34 _
  ·refine blk_far ?_ m35 _
   refine blk_far ?_ m45 _
   refine blk_put (cs := #[vf]) ?_ 0 _ rfl
   exact BF.out
  ·refine Kd.R_mono (Kd.R_far (p := ⟨g3, 0, none⟩) (Kd.R_far (p := ⟨g4, 0, none⟩) (Kd.R_far (p := ⟨g5, 0, none⟩) hnb (fun b hb e => ?_) _) (fun b hb e => ?_) _) (fun b hb e => ?_) _) (fun _ h => h.1)
   ·have := hb.2.1; have e2 : b = g5 := e; omega
   ·have := hb.2.1; have e2 : b = g4 := e; omega
   ·have := hb.2.1; have e2 : b = g3 := e; omega
 have h2 : v < s2 := h0.resolve_left h1
 have d0 : (s3 == 0) = false := by simpa using h1
 have d1 : decide (v < s2) = true := decide_eq_true h2
 clear h0 h1 h2
 go_enter Try.func42, Try.ntmps42
 go_wp2_with (first | ((with_reducible refine gate_callee (f := 28) rfl ?_); refine goesL_ (some 11) rfl rfl Try.func28 (by kernel_rfl) rfl #[.slice A0 l0.length c0, .slice A q.length c, .int .i64 obj] rfl (by (try simp only [mA_]); first | done | rfl) ?_; (with_reducible refine (impl_valueOf.calls k A0 c0 l0 A c q obj v _ ?s1 HC0.out ?s2 HQC.out HV.out).mono ?_); (case s1 => exact bC HR0.out HB.out); (case s2 => exact HC.out); rintro e w9 ⟨rfl, hb⟩; refine ⟨_, rfl, ?_⟩; have HCN := Aside0.mk (Kd.C_below HC.out hb); replace HC := HCN; clear HCN; have HSN := Aside0.mk (Nat.le_trans HSZ.out hb.size); replace HSZ := HSN; clear HSN; have HUN := Aside0.mk (show ∀ b, (Value.slice A q.length c).ownBlock = some b → w.heap.size ≤ b ∧ b < w9.heap.size from fun b h => ⟨(HU.out b h).1, Nat.lt_of_lt_of_le (HU.out b h).2 hb.size⟩); replace HU := HUN; clear HUN; have m1 := Aside0.mk (blk_below (bs BJ.out) hb); have m2 := Aside0.mk (blk_below (bs BO.out) hb); have m3 := Aside0.mk (blk_below (bs BC.out) hb); have m4 := Aside0.mk (blk_below (bs BL.out) hb); have m5 := Aside0.mk (blk_below (bs BF.out) hb); have m6 := Aside0.mk (Kd.R_below (bR HRF.out) hb); have m7 := Aside0.mk (below_step (bw HB.out) hb); have m8 := Aside0.mk (Kept.below HK.out hb); replace BJ := m1; replace BO := m2; replace BC := m3; replace BL := m4; replace BF := m5; replace HRF := m6; replace HB := m7; replace HK := m8; clear m1 m2 m3 m4 m5 m6 m7 m8 hb hcj hfj hco hfo hcc hfc hcl hfl hcf hff; obtain ⟨hcj, hfj⟩ := bz1 BJ.out; obtain ⟨hco, hfo⟩ := bz1 BO.out; obtain ⟨hcc, hfc⟩ := bz1 BC.out; obtain ⟨hcl, hfl⟩ := bz1 BL.out; obtain ⟨hcf, hff⟩ := bz1 BF.out) | ((with_reducible refine gate_callee (f := 16) rfl ?_); refine goesL_ (some 21) rfl rfl Try.func16 (by kernel_rfl) rfl #[.slice A q.length c] rfl (by (try simp only [mA_]); first | done | rfl) ?_; (with_reducible refine (impl_copyInts.calls A c q q2 _ HC.out HQC.out HQ2.out).mono ?_); rintro e w21 ⟨v21, rfl, hR, hb⟩; refine ⟨_, rfl, ?_⟩; have HN := Aside0.mk (Kd.R_lower (Kd.R_mono (ok' := fun b => some b ≠ (Value.slice A q.length c).ownBlock) (Kd.R_bound hR) (fun b hb1 e => absurd (HU.out b e.symm).2 (by have := hb1.2.1; omega))) HSZ.out); have HSN := Aside0.mk (Nat.le_trans HSZ.out hb.size); replace HSZ := HSN; clear HSN hR; have m1 := Aside0.mk (blk_below (bs BJ.out) hb); have m2 := Aside0.mk (blk_below (bs BO.out) hb); have m3 := Aside0.mk (blk_below (bs BC.out) hb); have m4 := Aside0.mk (blk_below (bs BL.out) hb); have m5 := Aside0.mk (blk_below (bs BF.out) hb); have m6 := Aside0.mk (Kd.R_below (bR HRF.out) hb); have m7 := Aside0.mk (below_step (bw HB.out) hb); have m8 := Aside0.mk (Kept.below HK.out hb); replace BJ := m1; replace BO := m2; replace BC := m3; replace BL := m4; replace BF := m5; replace HRF := m6; replace HB := m7; replace HK := m8; clear m1 m2 m3 m4 m5 m6 m7 m8 hb hcj hfj hco hfo hcc hfc hcl hfl hcf hff; obtain ⟨hcj, hfj⟩ := bz1 BJ.out; obtain ⟨hco, hfo⟩ := bz1 BO.out; obtain ⟨hcc, hfc⟩ := bz1 BC.out; obtain ⟨hcl, hfl⟩ := bz1 BL.out; obtain ⟨hcf, hff⟩ := bz1 BF.out; obtain ⟨A21, c21, e21⟩ := Kd.R_slice HN.out; subst e21))
 have hgs := HGS.out
 have hbs := HBS.out
 have hnb := Kd.R_bound HN.out
 go_end0
 refine ⟨rfl, ⟨?_, ?_, ?_, ?_, ⟨.slice A21 q2.length c21, ?_, ?_⟩⟩, below_set (below_set (below_set HB.out hbs.2.2) hbs.2.1) hbs.1, Kept.setCell (Kept.setCell (Kept.setCell HK.out (Or.inl (Or.inr (Or.inr rfl))) _) (Or.inl (Or.inr (Or.inl rfl))) _) (Or.inl (Or.inl rfl)) _⟩
 ·exact blk_far (blk_far (blk_far BJ.out n15 _) n14 _) n13 _
 ·exact blk_far (blk_far (blk_far BO.out n25 _) n24 _) n23 _
 ·exact blk_put (blk_far (blk_far BC.out n35 _) n34 _) 0 _ rfl
 ·exact blk_far (blk_put (blk_far BL.out n45 _) 0 _ rfl) m34 _
 ·refine blk_far ?_ m35 _
  refine blk_far ?_ m45 _
  refine blk_put (cs := #[vf]) ?_ 0 _ rfl
  exact BF.out
 ·refine Kd.R_mono (Kd.R_far (p := ⟨g3, 0, none⟩) (Kd.R_far (p := ⟨g4, 0, none⟩) (Kd.R_far (p := ⟨g5, 0, none⟩) hnb (fun b hb e => ?_) _) (fun b hb e => ?_) _) (fun b hb e => ?_) _) (fun _ h => h.1)
  ·have := hb.2.1; have e2 : b = g5 := e; omega
  ·have := hb.2.1; have e2 : b = g4 := e; omega
  ·have := hb.2.1; have e2 : b = g3 := e; omega

/-! ### impl_best: function 27 -/
def impl_best.f (k : Nat) (l0 : List (S42)) (a1 : Int) : Option (List Int × Int × Int) := (impl_numbersTo.f k (l0.length : Int)).bind fun o => impl_eachOrder.run (impl_best_1.step l0 a1) k o ([], 0, 0)
theorem impl_best.mono : ∀ l0 a1 k, LeO (impl_best.f k l0 a1) (impl_best.f (k + 1) l0 a1) := fun l0 a1 k => LeO.bind (impl_numbersTo.mono _ k) (fun o => impl_eachOrder.run_mono (fun k o s => impl_best_1.step_mono l0 a1 k o s) k o _)
set_option maxHeartbeats 3200000 in
set_option maxRecDepth 100000 in
theorem impl_best.calls (k : Nat) (A0 : Option Addr) (c0 : Nat) (l0 : List (S42)) (a1 : Int) (r1 : List Int) (r2 : Int) (r3 : Int) (w : World) (hr0 : Kd.C k42 w A0 l0.length l0) (hc0 : l0.length ≤ c0) (h : impl_best.f k l0 a1 = some (r1, r2, r3)) :
  Calls Try.prog 27 #[.slice A0 l0.length c0, .int .i64 a1] w fun e w' => ∃ v0_ : Value, e = .returned (.tuple #[v0_, .int .i64 r2, .int .i64 r3]) ∧ Kd.R (Kd.int .i64) 3 w' w.heap.size (fun _ => True) v0_ r1 ∧ Below w.heap.size w w' := by
 replace h := Option.bind_eq_some_iff.mp h
 obtain ⟨o, ho, h⟩ := h
 have HR0 := Aside0.mk hr0
 have HC0 := Aside0.mk hc0
 have HO := Aside0.mk ho
 have H' := Aside0.mk h
 have HB := Aside0.mk (Below.refl w.heap.size w)
 clear hr0 hc0 ho h
 go_enter Try.func27, Try.ntmps27
 go_wp2_with (first | ((with_reducible refine gate_dst (N := 2) rfl ?_); refine box_event ?hg (N := 2) ?hd (cs := #[.slice A0 l0.length c0]) (t := 24) ?hr ?_; (case hd => rfl); (case hg => rfl); (case hr => first | (go_simp; done) | (go_simp; rfl)); intro g1 hg w2_ hbox hb; have GEg1 := ge_ hg HB.out; have n0_ := Aside0.mk (below_step (bw HB.out) hb); have n1_ := Aside0.mk hbox; replace HB := n0_; have Bg1 := n1_; clear n0_ n1_  hb hbox hg; obtain ⟨hcBg1, hfBg1⟩ := bz1 Bg1.out) | ((with_reducible refine gate_dst (N := 3) rfl ?_); refine box_event ?hg (N := 3) ?hd (cs := #[.int .i64 a1]) (t := 3) ?hr ?_; (case hd => rfl); (case hg => rfl); (case hr => first | (go_simp; done) | (go_simp; rfl)); intro g2 hg w3_ hbox hb; have GEg2 := ge_ hg HB.out; have NEg1g2 := ne_ hg Bg1.out; have n0_ := Aside0.mk (below_step (bw HB.out) hb); have n1_ := Aside0.mk hbox; have n2_ := Aside0.mk (blk_below (bs Bg1.out) hb); replace HB := n0_; have Bg2 := n1_; replace Bg1 := n2_; clear n0_ n1_ n2_ hb hbox hg; obtain ⟨hcBg1, hfBg1⟩ := bz1 Bg1.out; obtain ⟨hcBg2, hfBg2⟩ := bz1 Bg2.out; have hng1g2 := NEg1g2.out) | ((with_reducible refine gate_dst (N := 7) rfl ?_); refine box_event ?hg (N := 7) ?hd (cs := #[.slice none 0 0]) (t := 25) ?hr ?_; (case hd => rfl); (case hg => rfl); (case hr => first | (go_simp; done) | (go_simp; rfl)); intro g5 hg w7_ hbox hb; have GEg5 := ge_ hg HB.out; have NEg1g5 := ne_ hg Bg1.out; have NEg2g5 := ne_ hg Bg2.out; have n0_ := Aside0.mk (below_step (bw HB.out) hb); have n1_ := Aside0.mk hbox; have n2_ := Aside0.mk (blk_below (bs Bg1.out) hb); have n3_ := Aside0.mk (blk_below (bs Bg2.out) hb); replace HB := n0_; have Bg5 := n1_; replace Bg1 := n2_; replace Bg2 := n3_; clear n0_ n1_ n2_ n3_ hb hbox hg; obtain ⟨hcBg1, hfBg1⟩ := bz1 Bg1.out; obtain ⟨hcBg2, hfBg2⟩ := bz1 Bg2.out; obtain ⟨hcBg5, hfBg5⟩ := bz1 Bg5.out; have hng1g5 := NEg1g5.out; have hng2g5 := NEg2g5.out) | ((with_reducible refine gate_dst (N := 8) rfl ?_); refine box_event ?hg (N := 8) ?hd (cs := #[.int .i64 0]) (t := 3) ?hr ?_; (case hd => rfl); (case hg => rfl); (case hr => first | (go_simp; done) | (go_simp; rfl)); intro g4 hg w8_ hbox hb; have GEg4 := ge_ hg HB.out; have NEg1g4 := ne_ hg Bg1.out; have NEg2g4 := ne_ hg Bg2.out; have NEg5g4 := ne_ hg Bg5.out; have n0_ := Aside0.mk (below_step (bw HB.out) hb); have n1_ := Aside0.mk hbox; have n2_ := Aside0.mk (blk_below (bs Bg1.out) hb); have n3_ := Aside0.mk (blk_below (bs Bg2.out) hb); have n4_ := Aside0.mk (blk_below (bs Bg5.out) hb); replace HB := n0_; have Bg4 := n1_; replace Bg1 := n2_; replace Bg2 := n3_; replace Bg5 := n4_; clear n0_ n1_ n2_ n3_ n4_ hb hbox hg; obtain ⟨hcBg1, hfBg1⟩ := bz1 Bg1.out; obtain ⟨hcBg2, hfBg2⟩ := bz1 Bg2.out; obtain ⟨hcBg5, hfBg5⟩ := bz1 Bg5.out; obtain ⟨hcBg4, hfBg4⟩ := bz1 Bg4.out; have hng1g4 := NEg1g4.out; have hng2g4 := NEg2g4.out; have hng5g4 := NEg5g4.out) | ((with_reducible refine gate_dst (N := 9) rfl ?_); refine box_event ?hg (N := 9) ?hd (cs := #[.int .i64 0]) (t := 3) ?hr ?_; (case hd => rfl); (case hg => rfl); (case hr => first | (go_simp; done) | (go_simp; rfl)); intro g3 hg w9_ hbox hb; have GEg3 := ge_ hg HB.out; have NEg1g3 := ne_ hg Bg1.out; have NEg2g3 := ne_ hg Bg2.out; have NEg5g3 := ne_ hg Bg5.out; have NEg4g3 := ne_ hg Bg4.out; have n0_ := Aside0.mk (below_step (bw HB.out) hb); have n1_ := Aside0.mk hbox; have n2_ := Aside0.mk (blk_below (bs Bg1.out) hb); have n3_ := Aside0.mk (blk_below (bs Bg2.out) hb); have n4_ := Aside0.mk (blk_below (bs Bg5.out) hb); have n5_ := Aside0.mk (blk_below (bs Bg4.out) hb); replace HB := n0_; have Bg3 := n1_; replace Bg1 := n2_; replace Bg2 := n3_; replace Bg5 := n4_; replace Bg4 := n5_; clear n0_ n1_ n2_ n3_ n4_ n5_ hb hbox hg; obtain ⟨hcBg1, hfBg1⟩ := bz1 Bg1.out; obtain ⟨hcBg2, hfBg2⟩ := bz1 Bg2.out; obtain ⟨hcBg5, hfBg5⟩ := bz1 Bg5.out; obtain ⟨hcBg4, hfBg4⟩ := bz1 Bg4.out; obtain ⟨hcBg3, hfBg3⟩ := bz1 Bg3.out; have hng1g3 := NEg1g3.out; have hng2g3 := NEg2g3.out; have hng5g3 := NEg5g3.out; have hng4g3 := NEg4g3.out))
 have n1 : Aside0 (((w9_.setCell ⟨g4, 0, none⟩ (.int .i64 0)).setCell ⟨g3, 0, none⟩ (.int .i64 0)).heap[g1]? = some (.cells #[.slice A0 l0.length c0] 24 (0, 0))) := ⟨blk_far (blk_far Bg1.out NEg1g4.out _) NEg1g3.out _⟩
 have n2 : Aside0 (((w9_.setCell ⟨g4, 0, none⟩ (.int .i64 0)).setCell ⟨g3, 0, none⟩ (.int .i64 0)).heap[g2]? = some (.cells #[.int .i64 a1] 3 (0, 0))) := ⟨blk_far (blk_far Bg2.out NEg2g4.out _) NEg2g3.out _⟩
 have n3 : Aside0 (((w9_.setCell ⟨g4, 0, none⟩ (.int .i64 0)).setCell ⟨g3, 0, none⟩ (.int .i64 0)).heap[g3]? = some (.cells #[.int .i64 0] 3 (0, 0))) := ⟨blk_put (blk_far Bg3.out NEg4g3.out.symm _) 0 _ rfl⟩
 have n4 : Aside0 (((w9_.setCell ⟨g4, 0, none⟩ (.int .i64 0)).setCell ⟨g3, 0, none⟩ (.int .i64 0)).heap[g4]? = some (.cells #[.int .i64 0] 3 (0, 0))) := ⟨blk_far (blk_put Bg4.out 0 _ rfl) NEg4g3.out _⟩
 have n5 : Aside0 (((w9_.setCell ⟨g4, 0, none⟩ (.int .i64 0)).setCell ⟨g3, 0, none⟩ (.int .i64 0)).heap[g5]? = some (.cells #[.slice none 0 0] 25 (0, 0))) := ⟨blk_far (blk_far Bg5.out NEg5g4.out _) NEg5g3.out _⟩
 have n6 : Aside0 (Below w.heap.size w ((w9_.setCell ⟨g4, 0, none⟩ (.int .i64 0)).setCell ⟨g3, 0, none⟩ (.int .i64 0))) := ⟨below_set (below_set HB.out GEg4.out) GEg3.out⟩
 clear Bg1 Bg2 Bg3 Bg4 Bg5 HB hcBg1 hfBg1 hcBg2 hfBg2 hcBg3 hfBg3 hcBg4 hfBg4 hcBg5 hfBg5
 generalize ((w9_.setCell ⟨g4, 0, none⟩ (.int .i64 0)).setCell ⟨g3, 0, none⟩ (.int .i64 0)) = W at n1 n2 n3 n4 n5 n6 ⊢
 have l1 := blk_lt n1.out
 have l2 := blk_lt n2.out
 have l3 := blk_lt n3.out
 have l4 := blk_lt n4.out
 have l5 := blk_lt n5.out
 refine (impl_eachOrder.calls 42 _ (impl_best_1.step l0 a1) (impl_best_1.Inv w W A0 c0 l0 a1 g1 g2 g3 g4 g5) (fun b => b = g3 ∨ b = g4 ∨ b = g5) k (l0.length : Int) o ([], 0, 0) (r1, r2, r3) w W n6.out (below_size n6.out) impl_best_1.heg ?hbx ?htell ?hstab ?hinit HO.out H'.out).mono ?_
 case hbx =>
  intro b hb
  rcases hb with rfl | rfl | rfl <;> assumption
 case htell => exact impl_best_1.tell w W A0 c0 l0 a1 g1 g2 g3 g4 g5 HR0.out HC0.out l1 l2 l3 l4 l5 NEg1g3.out NEg1g4.out NEg1g5.out NEg2g3.out NEg2g4.out NEg2g5.out NEg4g3.out.symm NEg5g3.out.symm NEg5g4.out.symm GEg3.out GEg4.out GEg5.out
 case hstab =>
  intro u st W1 W2 hI hu hk
  obtain ⟨hj, ho, hc, hl, v, hf, hR⟩ := hI
  have hne : ∀ g, g < W.heap.size → ¬ some g = u.ownBlock := fun g hg e => by
   have := hu g e.symm
   omega
  exact ⟨blk_kept hj hk (hne _ l1), blk_kept ho hk (hne _ l2), blk_kept hc hk (hne _ l3), blk_kept hl hk (hne _ l4), v, blk_kept hf hk (hne _ l5), Kd.R_kept hR hk (fun _ h1 h2 => h1 h2)⟩
 case hinit =>
  intro u W1 hb hu
  exact ⟨blk_below n1.out hb, blk_below n2.out hb, blk_below n3.out hb, blk_below n4.out hb, .slice none 0 0, blk_below n5.out hb, Kd.R_nil _ _ _ _ _⟩
 rintro e w13 ⟨rfl, ⟨u, hI⟩, hb⟩
 obtain ⟨hj, ho, hc, hl, v, hf, hR⟩ := hI
 have HB := Aside0.mk hb
 have HR := Aside0.mk (Kd.R_mono (ok' := fun _ => True) (Kd.R_lower hR (below_size n6.out)) (fun _ _ => trivial))
 obtain ⟨hc1, hc1f⟩ := bz1 hc
 obtain ⟨hl1, hl1f⟩ := bz1 hl
 obtain ⟨hf1, hf1f⟩ := bz1 hf
 obtain ⟨Av, cv, ev⟩ := Kd.R_slice HR.out
 subst ev
 clear hj ho hc hl hf hR hb n1 n2 n3 n4 n5 n6 l1 l2 l3 l4 l5
 go_wp2
 go_quiet (fail)
 go_wp2
 go_ret3
 exact ⟨_, rfl, bR HR.out, bw HB.out⟩

/-! ### impl_IsBestOrder: function 13 -/
def impl_IsBestOrder.f (k : Nat) (l0 : List (S42)) (l1 : List Int) (a2 : Int) : Option (Bool × Bool) := (impl_isValued.f k l0 l1 a2).bind fun t471 => (if t471 = true then ((impl_best.f k l0 a2).bind fun bt472 => ((impl_valueOf.f k l0 l1 a2).bind fun t477 => (some ((t477 == bt472.2.1), true)))) else (some (false, false)))
theorem impl_IsBestOrder.mono : ∀ a0 a1 a2 k, LeO (impl_IsBestOrder.f k a0 a1 a2) (impl_IsBestOrder.f (k + 1) a0 a1 a2) := by
 intro a0 a1 a2 k
 unfold impl_IsBestOrder.f
 repeat' first
   | (with_reducible exact impl_best.mono _ _ _)
   | (with_reducible exact impl_isValued.mono _ _ _ _)
   | (with_reducible exact impl_valueOf.mono _ _ _ _)
   | (with_reducible exact LeO.refl _)
   | (with_reducible exact LeO.none _)
   | (with_reducible refine LeO.ite ?_ ?_)
   | (with_reducible refine LeO.bind ?_ (fun _ => ?_))
   | exact impl_best.mono _ _ _
   | exact impl_isValued.mono _ _ _ _
   | exact impl_valueOf.mono _ _ _ _
   | exact LeO.none _
   | refine LeO.ite ?_ ?_
   | refine LeO.bind ?_ (fun _ => ?_)
set_option maxHeartbeats 8000000 in
set_option maxRecDepth 100000 in
theorem impl_IsBestOrder.calls (k : Nat) (A0 : Option Addr) (c0 : Nat) (l0 : List (S42)) (A1 : Option Addr) (c1 : Nat) (l1 : List Int) (a2 : Int) (r1 : Bool) (r2 : Bool) (w : World) (hr0 : Kd.C k42 w A0 l0.length l0) (hc0 : l0.length ≤ c0) (hr1 : Kd.C (Kd.int .i64) w A1 l1.length l1) (hc1 : l1.length ≤ c1) (h : impl_IsBestOrder.f k l0 l1 a2 = some (r1, r2)) :
  Calls Try.prog 13 #[.slice A0 l0.length c0, .slice A1 l1.length c1, .int .i64 a2] w fun e w' => e = .returned (.tuple #[.bool r1, .bool r2]) ∧ Below w.heap.size w w' := by
 have HR0 := Aside0.mk hr0
 have HC0 := Aside0.mk hc0
 clear hr0 hc0
 have HR1 := Aside0.mk hr1
 have HC1 := Aside0.mk hc1
 clear hr1 hc1
 have HB := Aside0.mk (Below.refl w.heap.size w)
 have H : ((impl_isValued.f k l0 l1 a2).bind fun t471 => (if t471 = true then ((impl_best.f k l0 a2).bind fun bt472 => ((impl_valueOf.f k l0 l1 a2).bind fun t477 => (some ((t477 == bt472.2.1), true)))) else (some (false, false)))) = some (r1, r2) := h
 clear h
 replace H := Option.bind_eq_some_iff.mp H
 obtain ⟨t471, A40, H⟩ := H
 replace H : (if t471 = true then ((impl_best.f k l0 a2).bind fun bt472 => ((impl_valueOf.f k l0 l1 a2).bind fun t477 => (some ((t477 == bt472.2.1), true)))) else (some (false, false))) = some (r1, r2) := H
 have A4 := Aside0.mk A40
 clear A40
 by_cases c5 : t471 = true
 rotate_left
 ·replace c5 := Bool.eq_false_iff.mpr c5
  subst c5
  have H1 : (some (false, false)) = some (r1, r2) := by rw [if_neg (show ¬ (false = true) by decide)] at H; exact H
  clear H
  have H := H1
  clear H1
  simp only [Option.some.injEq, Prod.mk.injEq] at H
  obtain ⟨rfl, rfl⟩ := H
  go_enter Try.func13, Try.ntmps13
  go_wp2_with (first | ((with_reducible refine gate_callee (f := 24) rfl ?_); refine goesL_ (some 14) rfl rfl Try.func24 (by kernel_rfl) rfl #[.slice A0 l0.length c0, .slice A1 l1.length c1, .int .i64 a2] rfl (by (try simp only [mA_]); first | done | rfl | (simp only [List.length_drop, List.length_take]; rfl)) ?_; (with_reducible refine (impl_isValued.calls k _ _ l0 _ _ l1 a2 false _ ?side1 ?side2 ?side3 ?side4 A4.out).mono ?_); (case side1 => repeat (first | exact HR0.out | (with_reducible refine Kd.C_alloc ?_ _) | (with_reducible refine Kd.C_drewN ?_ _) | (with_reducible refine Kd.C_drew ?_))); (case side2 => exact HC0.out); (case side3 => repeat (first | exact HR1.out | (with_reducible refine Kd.C_alloc ?_ _) | (with_reducible refine Kd.C_drewN ?_ _) | (with_reducible refine Kd.C_drew ?_))); (case side4 => exact HC1.out); rintro e w11 ⟨rfl, hb⟩; refine ⟨_, rfl, ?_⟩; have n0_ := Aside0.mk (below_step (bw HB.out) hb); replace HB := n0_; clear n0_; (try clear hb); (try clear hb2); (try clear hk); (try clear hi)))
  go_ret2
  exact ⟨by first | rfl | (simp [errW_none, errW_some] <;> rfl) | (simp [*, errW_none, errW_some] <;> rfl), bw HB.out⟩
 subst c5
 have H1 : ((impl_best.f k l0 a2).bind fun bt472 => ((impl_valueOf.f k l0 l1 a2).bind fun t477 => (some ((t477 == bt472.2.1), true)))) = some (r1, r2) := by rw [if_pos rfl] at H; exact H
 clear H
 have H := H1
 clear H1
 replace H := Option.bind_eq_some_iff.mp H
 obtain ⟨⟨t472, t473, t474⟩, A60, H⟩ := H
 replace H : ((impl_valueOf.f k l0 l1 a2).bind fun t477 => (some ((t477 == t473), true))) = some (r1, r2) := H
 have A6 := Aside0.mk A60
 clear A60
 replace H := Option.bind_eq_some_iff.mp H
 obtain ⟨t477, A70, H⟩ := H
 replace H : (some ((t477 == t473), true)) = some (r1, r2) := H
 have A7 := Aside0.mk A70
 clear A70
 simp only [Option.some.injEq, Prod.mk.injEq] at H
 obtain ⟨rfl, rfl⟩ := H
 go_enter Try.func13, Try.ntmps13
 go_wp2_with (first | ((with_reducible refine gate_callee (f := 24) rfl ?_); refine goesL_ (some 14) rfl rfl Try.func24 (by kernel_rfl) rfl #[.slice A0 l0.length c0, .slice A1 l1.length c1, .int .i64 a2] rfl (by (try simp only [mA_]); first | done | rfl | (simp only [List.length_drop, List.length_take]; rfl)) ?_; (with_reducible refine (impl_isValued.calls k _ _ l0 _ _ l1 a2 true _ ?side1 ?side2 ?side3 ?side4 A4.out).mono ?_); (case side1 => repeat (first | exact HR0.out | (with_reducible refine Kd.C_alloc ?_ _) | (with_reducible refine Kd.C_drewN ?_ _) | (with_reducible refine Kd.C_drew ?_))); (case side2 => exact HC0.out); (case side3 => repeat (first | exact HR1.out | (with_reducible refine Kd.C_alloc ?_ _) | (with_reducible refine Kd.C_drewN ?_ _) | (with_reducible refine Kd.C_drew ?_))); (case side4 => exact HC1.out); rintro e w8 ⟨rfl, hb⟩; refine ⟨_, rfl, ?_⟩; have n0_ := Aside0.mk (below_step (bw HB.out) hb); replace HB := n0_; clear n0_; (try clear hb); (try clear hb2); (try clear hk); (try clear hi)) | ((with_reducible refine gate_callee (f := 27) rfl ?_); refine goesL_ (some 19) rfl rfl Try.func27 (by kernel_rfl) rfl #[.slice A0 l0.length c0, .int .i64 a2] rfl (by (try simp only [mA_]); first | done | rfl | (simp only [List.length_drop, List.length_take]; rfl)) ?_; (with_reducible refine (impl_best.calls k _ _ l0 a2 t472 t473 t474 _ ?side1 ?side2 A6.out).mono ?_); (case side1 => first | exact bC HR0.out HB.out | exact Kd.C_below HR0.out HB.out); (case side2 => exact HC0.out); rintro e w9 ⟨v475, rfl, ho0, hb⟩; refine ⟨_, rfl, ?_⟩; have n0_ := Aside0.mk (Kd.R_lower ho0 (below_size (bw HB.out))); have n1_ := Aside0.mk (below_step (bw HB.out) hb); have HO476 := n0_; replace HB := n1_; clear n0_ n1_; (try clear hb); (try clear hb2); (try clear hk); (try clear hi); (try clear ho0)) | ((with_reducible refine gate_callee (f := 28) rfl ?_); refine goesL_ (some 26) rfl rfl Try.func28 (by kernel_rfl) rfl #[.slice A0 l0.length c0, .slice A1 l1.length c1, .int .i64 a2] rfl (by (try simp only [mA_]); first | done | rfl | (simp only [List.length_drop, List.length_take]; rfl)) ?_; (with_reducible refine (impl_valueOf.calls k _ _ l0 _ _ l1 a2 t477 _ ?side1 ?side2 ?side3 ?side4 A7.out).mono ?_); (case side1 => first | exact bC HR0.out HB.out | exact Kd.C_below HR0.out HB.out); (case side2 => exact HC0.out); (case side3 => first | exact bC HR1.out HB.out | exact Kd.C_below HR1.out HB.out); (case side4 => exact HC1.out); rintro e w10 ⟨rfl, hb⟩; refine ⟨_, rfl, ?_⟩; have n0_ := Aside0.mk (Kd.R_below (bR HO476.out) hb); have n1_ := Aside0.mk (below_step (bw HB.out) hb); replace HO476 := n0_; replace HB := n1_; clear n0_ n1_; (try clear hb); (try clear hb2); (try clear hk); (try clear hi)))
 go_ret2
 exact ⟨by first | rfl | (simp [errW_none, errW_some] <;> rfl) | (simp [*, errW_none, errW_some] <;> rfl), bw HB.out⟩

end Go.Proofs.Ytmfmgingdepjbaa.X
