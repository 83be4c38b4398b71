-- Written by a program of this session (wip/gen/xp.py, over the kit's printer). Not trusted: Lean checks it.
import Derived.Test.YtoagdnojoodloaaX0
import Derived.Test.YtoagdnojoodloaaXf7
namespace Go.Proofs.Ytoagdnojoodloaa.X
open Go.RowKit Go.Proofs.YtoagdnojoodloaaW.PrintWords Go.Proofs.YtoagdnojoodloaaW.PrintLast Go.Proofs.YtoagdnojoodloaaW.PrintMore
attribute [local go_sem] max2_int min2_int max_two min_two max_three min_three max_four min_four   -- for this text's walks alone
set_option linter.unusedVariables false
set_option linter.unusedSimpArgs false

/-! ### spec_l5Two: function 35 -/
def spec_l5Two.f (k : Nat) (l0 : List (S61)) (a1 : Int) : Option (Bool) := (spec_l2Good.f k l0).bind fun t305 => (if t305 = true then (if a1 = 2 then (some true) else (some (a1 == 4))) else (some false))
theorem spec_l5Two.mono : ∀ a0 a1 k, LeO (spec_l5Two.f k a0 a1) (spec_l5Two.f (k + 1) a0 a1) := by
 intro a0 a1 k
 unfold spec_l5Two.f
 repeat' first
   | (with_reducible exact spec_l2Good.mono _ _)
   | (with_reducible exact LeO.refl _)
   | (with_reducible exact LeO.none _)
   | (with_reducible refine LeO.ite ?_ ?_)
   | (with_reducible refine LeO.bind ?_ (fun _ => ?_))
   | exact spec_l2Good.mono _ _
   | exact LeO.none _
   | refine LeO.ite ?_ ?_
   | refine LeO.bind ?_ (fun _ => ?_)
set_option maxHeartbeats 8000000 in
set_option maxRecDepth 100000 in
theorem spec_l5Two.calls (k : Nat) (A0 : Option Addr) (c0 : Nat) (l0 : List (S61)) (a1 : Int) (r : Bool) (w : World) (hr0 : Kd.C k61 w A0 l0.length l0) (hc0 : l0.length ≤ c0) (h : spec_l5Two.f k l0 a1 = some r) :
  Calls Try.prog 35 #[.slice A0 l0.length c0, .int .i64 a1] w fun e w' => e = .returned (.bool r) ∧ Below w.heap.size w w' := by
 have HR0 := Aside0.mk hr0
 have HC0 := Aside0.mk hc0
 clear hr0 hc0
 have HB := Aside0.mk (Below.refl w.heap.size w)
 have H : ((spec_l2Good.f k l0).bind fun t305 => (if t305 = true then (if a1 = 2 then (some true) else (some (a1 == 4))) else (some false))) = some r := h
 clear h
 replace H := Option.bind_eq_some_iff.mp H
 obtain ⟨t305, A30, H⟩ := H
 replace H : (if t305 = true then (if a1 = 2 then (some true) else (some (a1 == 4))) else (some false)) = some r := H
 have A3 := Aside0.mk A30
 clear A30
 by_cases c4 : t305 = true
 rotate_left
 ·replace c4 := Bool.eq_false_iff.mpr c4
  subst c4
  have H1 : (some false) = some r := by rw [if_neg (show ¬ (false = true) by decide)] at H; exact H
  clear H
  have H := H1
  clear H1
  obtain rfl := Option.some.inj H
  go_enter Try.func35, Try.ntmps35
  go_wp2_with (first | ((with_reducible refine gate_callee (f := 54) rfl ?_); refine goesL_ (some 6) rfl rfl Try.func54 (by kernel_rfl) rfl #[.slice A0 l0.length c0] rfl (by (try simp only [mA_]); first | done | rfl | (simp only [List.length_drop, List.length_take]; rfl)) ?_; (with_reducible refine (spec_l2Good.calls k _ _ l0 false _ ?side1 ?side2 A3.out).mono ?_); (case side1 => repeat (first | exact HR0.out | (with_reducible refine Kd.C_alloc ?_ _) | (with_reducible refine Kd.C_drewN ?_ _) | (with_reducible refine Kd.C_drew ?_))); (case side2 => exact HC0.out); rintro e w8 ⟨rfl, hb⟩; refine ⟨_, rfl, ?_⟩; have n0_ := Aside0.mk (below_step (bw HB.out) hb); replace HB := n0_; clear n0_; (try clear hb); (try clear hb2); (try clear hk); (try clear hi)))
  go_ret
  exact ⟨by first | rfl | (simp [errW_none, errW_some] <;> rfl) | (simp [*, errW_none, errW_some] <;> rfl), bw HB.out⟩
 subst c4
 have H1 : (if a1 = 2 then (some true) else (some (a1 == 4))) = some r := by rw [if_pos rfl] at H; exact H
 clear H
 have H := H1
 clear H1
 by_cases c5 : a1 = 2
 rotate_left
 ·rw [if_neg c5] at H
  have c5b0 : (a1 == 2) = false := beq_eq_false_iff_ne.mpr c5
  have c5b1 : (a1 != 2) = true := bne_iff_ne.mpr c5
  obtain rfl := Option.some.inj H
  go_enter Try.func35, Try.ntmps35
  go_wp2_with (first | ((with_reducible refine gate_callee (f := 54) rfl ?_); refine goesL_ (some 6) rfl rfl Try.func54 (by kernel_rfl) rfl #[.slice A0 l0.length c0] rfl (by (try simp only [mA_]); first | done | rfl | (simp only [List.length_drop, List.length_take]; rfl)) ?_; (with_reducible refine (spec_l2Good.calls k _ _ l0 true _ ?side1 ?side2 A3.out).mono ?_); (case side1 => repeat (first | exact HR0.out | (with_reducible refine Kd.C_alloc ?_ _) | (with_reducible refine Kd.C_drewN ?_ _) | (with_reducible refine Kd.C_drew ?_))); (case side2 => exact HC0.out); rintro e w7 ⟨rfl, hb⟩; refine ⟨_, rfl, ?_⟩; have n0_ := Aside0.mk (below_step (bw HB.out) hb); replace HB := n0_; clear n0_; (try clear hb); (try clear hb2); (try clear hk); (try clear hi)))
  go_ret
  exact ⟨by first | rfl | (simp [errW_none, errW_some] <;> rfl) | (simp [*, errW_none, errW_some] <;> rfl), bw HB.out⟩
 rw [if_pos c5] at H
 have c5b0 : (a1 == 2) = true := beq_iff_eq.mpr c5
 have c5b1 : (a1 != 2) = false := bne_eq_false_iff_eq.mpr c5
 clear c5
 obtain rfl := Option.some.inj H
 go_enter Try.func35, Try.ntmps35
 go_wp2_with (first | ((with_reducible refine gate_callee (f := 54) rfl ?_); refine goesL_ (some 6) rfl rfl Try.func54 (by kernel_rfl) rfl #[.slice A0 l0.length c0] rfl (by (try simp only [mA_]); first | done | rfl | (simp only [List.length_drop, List.length_take]; rfl)) ?_; (with_reducible refine (spec_l2Good.calls k _ _ l0 true _ ?side1 ?side2 A3.out).mono ?_); (case side1 => repeat (first | exact HR0.out | (with_reducible refine Kd.C_alloc ?_ _) | (with_reducible refine Kd.C_drewN ?_ _) | (with_reducible refine Kd.C_drew ?_))); (case side2 => exact HC0.out); rintro e w6 ⟨rfl, hb⟩; refine ⟨_, rfl, ?_⟩; have n0_ := Aside0.mk (below_step (bw HB.out) hb); replace HB := n0_; clear n0_; (try clear hb); (try clear hb2); (try clear hk); (try clear hi)))
 go_ret
 exact ⟨by first | rfl | (simp [errW_none, errW_some] <;> rfl) | (simp [*, errW_none, errW_some] <;> rfl), bw HB.out⟩

/-! ### spec_l5Rests: function 67 -/
def spec_l5Rests.l0 : Nat → List (S61) → List Int → Int → Option (List Int)
 | 0, _, _, _ => none
 | k + 1, x0, x3, x4 => if x4 < (x0.length : Int) then (if 0 ≤ x4 then (if x3.length < 17592186044416 then (spec_l5Rests.l0 k x0 (x3 ++ [(rd_T61 x0 x4).f0]) (wrap64 (x4 + 1))) else (none)) else (none)) else (some x3)
def spec_l5Rests.f (k : Nat) (l0 : List (S61)) : Option (List Int) := spec_l5Rests.l0 k l0 (([] : List Int)) 0
theorem spec_l5Rests.mono_l : ∀ k, (∀ y0 y1 y2, LeO (spec_l5Rests.l0 k y0 y1 y2) (spec_l5Rests.l0 (k + 1) y0 y1 y2))
 | 0 => fun _ _ _ r h => by simp [spec_l5Rests.l0] at h
 | k + 1 => by
  have ih0 := spec_l5Rests.mono_l k
  ·intro y0 y1 y2
   unfold spec_l5Rests.l0
   repeat' first
   | (with_reducible exact ih0 _ _ _)
   | (with_reducible exact LeO.refl _)
   | (with_reducible exact LeO.none _)
   | (with_reducible refine LeO.ite ?_ ?_)
   | (with_reducible refine LeO.bind ?_ (fun _ => ?_))
   | exact ih0 _ _ _
   | exact LeO.none _
   | refine LeO.ite ?_ ?_
   | refine LeO.bind ?_ (fun _ => ?_)
theorem spec_l5Rests.mono : ∀ a0 k, LeO (spec_l5Rests.f k a0) (spec_l5Rests.f (k + 1) a0) := by
 intro a0 k
 have ih0 := spec_l5Rests.mono_l k
 unfold spec_l5Rests.f
 repeat' first
   | (with_reducible exact ih0 _ _ _)
   | (with_reducible exact LeO.refl _)
   | (with_reducible exact LeO.none _)
   | (with_reducible refine LeO.ite ?_ ?_)
   | (with_reducible refine LeO.bind ?_ (fun _ => ?_))
   | exact ih0 _ _ _
   | exact LeO.none _
   | refine LeO.ite ?_ ?_
   | refine LeO.bind ?_ (fun _ => ?_)
set_option maxHeartbeats 8000000 in
set_option maxRecDepth 100000 in
theorem spec_l5Rests.calls (k : Nat) (A0 : Option Addr) (c0 : Nat) (l0 : List (S61)) (r : List Int) (w : World) (hr0 : Kd.C k61 w A0 l0.length l0) (hc0 : l0.length ≤ c0) (h : spec_l5Rests.f k l0 = some r) :
  Calls Try.prog 67 #[.slice A0 l0.length c0] w fun e w' => ∃ v0_ : Value, e = .returned (v0_) ∧ Kd.R (Kd.int .i64) 3 w' w.heap.size (fun _ => True) v0_ r ∧ Below w.heap.size w w' := by
 have HR0 := Aside0.mk hr0
 have HC0 := Aside0.mk hc0
 clear hr0 hc0
 have HB := Aside0.mk (Below.refl w.heap.size w)
 have H : (spec_l5Rests.l0 k l0 (([] : List Int)) 0) = some r := h
 clear h
 obtain ⟨y306, hy306⟩ : ∃ y_ : List Int, y_ = (([] : List Int)) := ⟨_, rfl⟩
 replace H : (spec_l5Rests.l0 k l0 y306 0) = some r := by first | (rw [hy306]; with_reducible exact H) | (have H2_ := (Option.bind_some _ _).symm.trans H; rw [hy306]; with_reducible exact H2_) | (have H2_ := (Option.bind_some _ _).symm.trans H; with_reducible exact H2_) | with_reducible exact H | (rw [hy306]; exact H) | exact H
 have Ny306 := Aside0.mk hy306
 clear hy306
 have H' := Aside0.mk H
 clear H
 go_enter Try.func67, Try.ntmps67
 go_wp2_with (first | ((with_reducible refine gate_dst (N := 5) rfl ?_); refine Kd.R_lit (Kd.int .i64) _ 3 ?hg (N := 5) ?hd (xs := ([] : List Int)) (inner := []) (ok := fun _ => True) (okp := fun _ => True) ?hr ?hp (fun _ hk => hk) trivial (Below.refl _ _) (Nat.le_refl _) (by simp) ?_; (case hd => rfl); (case hg => rfl); (case hr => first | (go_simp; done) | (go_simp; rfl)); (case hp => exact (Reps.none _ _)); intro v307 w2 ho3 hb hg_ hnew_; clear hg_ hnew_; (first | rw [← Ny306.out] at ho3 | (simp only [Int.reduceToNat] at ho3; rw [← Ny306.out] at ho3)); have n0_ := Aside0.mk (Kd.R_lower ho3 (below_size (bw HB.out))); have n1_ := Aside0.mk (below_step (bw HB.out) hb); have HO308 := n0_; replace HB := n1_; clear n0_ n1_; clear hb ho3))
 go_loopg [3, 4] k (fun kq v3 v4 w' => ∃ (x3_1 : List Int) (x4_1 : Int), v4 = .int .i64 x4_1 ∧ Aside0 (spec_l5Rests.l0 kq l0 x3_1 x4_1 = some r) ∧ Aside0 (kq ≤ k) ∧ Aside0 (Kd.R (Kd.int .i64) 3 w' w.heap.size (fun _ => True) v3 x3_1) ∧ Aside0 (Below w.heap.size w w'))
 case atStart => exact ⟨(y306), (0), (by first | rfl | (simp; done) | (simp [*]; done)), H', ⟨Nat.le_refl _⟩, ⟨bR HO308.out⟩, ⟨bw HB.out⟩⟩
 case round =>
  clear H'
  try clear p2
  obtain ⟨x3_1, x4_1, rfl, HA, HK1, HO_3, HB⟩ := hrel
  cases gk with
  | zero => exact absurd HA.out (by simp [spec_l5Rests.l0])
  | succ k1 =>
   have H := HA.out
   clear HA
   simp only [spec_l5Rests.l0] at H
   by_cases c4 : x4_1 < (l0.length : Int)
   rotate_left
   ·rw [if_neg c4] at H
    have c4b0 : decide (x4_1 < (l0.length : Int)) = false := decide_eq_false c4
    clear c4
    obtain rfl := Option.some.inj H
    go_wp2
    go_ret
    exact ⟨_, by first | rfl | (simp [errW_none, errW_some] <;> rfl) | (simp [*, errW_none, errW_some] <;> rfl), by (with_reducible repeat (first | apply Kd.R_alloc | apply Kd.R_drewN | apply Kd.R_drew)); exact HO_3.out, bw HB.out⟩
   rw [if_pos c4] at H
   have c4b0 : decide (x4_1 < (l0.length : Int)) = true := decide_eq_true c4
   clear c4
   by_cases c5 : 0 ≤ x4_1
   rotate_left
   ·rw [if_neg c5] at H
    exact absurd H (by simp)
   rw [if_pos c5] at H
   have c5b0 : decide (0 ≤ x4_1) = true := decide_eq_true c5
   clear c5
   by_cases c6 : x3_1.length < 17592186044416
   rotate_left
   ·rw [if_neg c6] at H
    exact absurd H (by simp)
   rw [if_pos c6] at H
   have LMc6 := Aside0.mk c6
   clear c6
   obtain ⟨y310, hy310⟩ : ∃ y_ : List Int, y_ = (x3_1 ++ [(rd_T61 l0 x4_1).f0]) := ⟨_, rfl⟩
   replace H : (spec_l5Rests.l0 k1 l0 y310 (wrap64 (x4_1 + 1))) = some r := by first | (rw [hy310]; with_reducible exact H) | (have H2_ := (Option.bind_some _ _).symm.trans H; rw [hy310]; with_reducible exact H2_) | (have H2_ := (Option.bind_some _ _).symm.trans H; with_reducible exact H2_) | with_reducible exact H | (rw [hy310]; exact H) | exact H
   have Ny310 := Aside0.mk hy310
   clear hy310
   have H' := Aside0.mk H
   clear H
   have p309 : 0 ≤ (x4_1 : Int) := of_decide_eq_true (by first | (with_reducible assumption) | assumption)
   have q309 : x4_1 < (l0.length : Int) := of_decide_eq_true (by first | (with_reducible assumption) | assumption)
   obtain ⟨ad309, e309, hx309_0, hx309_1, hx309_2, hx309_3⟩ := at_T61 HR0.out x4_1 p309 q309
   cases e309
   replace hx309_0 := (HB.out.cell (World.block_lt_of_cell? w _ hx309_0)).trans hx309_0
   replace hx309_1 := (HB.out.cell (World.block_lt_of_cell? w _ hx309_1)).trans hx309_1
   replace hx309_2 := (HB.out.cell (World.block_lt_of_cell? w _ hx309_2)).trans hx309_2
   replace hx309_3 := (HB.out.cell (World.block_lt_of_cell? w _ hx309_3)).trans hx309_3
   replace p309 := eq_true p309
   replace q309 := eq_true q309
   go_wp2_with (first | ((with_reducible refine gate_builtin (b := .append) (xs := #[.tmp 12, .tmp 18]) rfl ?_); at_builtin; refine Kd.R_append (Kd.int .i64) (w0 := w) w.heap.size rfl (.tmp 12) (.tmp 18) 23 3 (.int .i64 0) 8 rfl Try.underlying23 info3 rfl (by decide) (by omega) u3 x3_1 ((rd_T61 l0 x4_1).f0) [.int .i64 ((rd_T61 l0 x4_1).f0)] (fun _ => True) (fun _ => False) rfl rfl ?aP (fun _ hk => hk.elim) ?aF ?aO ?aB ?aS ?aL ?_; (case aP => exact rfl); (case aB => exact (bw HB.out)); (case aF => exact (fun _ _ => trivial)); (case aO => exact (bR HO_3.out)); (case aS => exact (below_size (bw HB.out))); (case aL => have := LMc6.out; omega); intro v311 w7 ho hb hg hat; rw [← Ny310.out] at ho; have n0_ := Aside0.mk (hb); have n1_ := Aside0.mk (ho); clear HO_3; replace HB := n0_; have HO312 := n1_; clear n0_ n1_; clear ho hb hg hat))
   go_roundg k1
   case measure => have := HK1.out; omega
   case rel => exact ⟨(y310), (wrap64 (x4_1 + 1)), (by first | rfl | (simp; done) | (simp [*]; done)), H', ⟨by have := HK1.out; omega⟩, ⟨bR HO312.out⟩, ⟨bw HB.out⟩⟩

/-! ### spec_l5Pick: function 92 -/
mutual
def spec_l5Pick.l0 : Nat → List (S61) → List Int → Int → Int → Int → Int → Option (Int)
 | 0, _, _, _, _, _, _ => none
 | k + 1, x0, x1, x2, x3, x9, x10 => if x10 < (x0.length : Int) then (if 0 ≤ x10 then (if x10 < (x1.length : Int) then (if (rd x1 x10) = 0 then (spec_l5Pick.j1 k x0 x1 x2 x3 x9 x10 true) else (spec_l5Pick.j1 k x0 x1 x2 x3 x9 x10 (decide (((rd_T61 x0 x10).f2) > x2)))) else (none)) else (none)) else (some x9)
def spec_l5Pick.j1 : Nat → List (S61) → List Int → Int → Int → Int → Int → Bool → Option (Int)
 | 0, _, _, _, _, _, _, _ => none
 | k + 1, x0, x1, x2, x3, x9, x10, x30 => if x30 = true then (spec_l5Pick.l0 k x0 x1 x2 x3 x9 (wrap64 (x10 + 1))) else (if x9 < 0 then (spec_l5Pick.l0 k x0 x1 x2 x3 x10 (wrap64 (x10 + 1))) else (if x3 = 2 then (if 0 ≤ x10 then (if x10 < (x1.length : Int) then (if 0 ≤ x9 then (if x9 < (x1.length : Int) then (if (rd x1 x10) < (rd x1 x9) then (spec_l5Pick.l0 k x0 x1 x2 x3 x10 (wrap64 (x10 + 1))) else (if x3 = 4 then (if x10 < (x0.length : Int) then (if x9 < (x0.length : Int) then (if ((rd_T61 x0 x10).f3) < ((rd_T61 x0 x9).f3) then (spec_l5Pick.l0 k x0 x1 x2 x3 x10 (wrap64 (x10 + 1))) else (spec_l5Pick.l0 k x0 x1 x2 x3 x9 (wrap64 (x10 + 1)))) else (none)) else (none)) else (spec_l5Pick.l0 k x0 x1 x2 x3 x9 (wrap64 (x10 + 1))))) else (none)) else (none)) else (none)) else (none)) else (if x3 = 4 then (if 0 ≤ x10 then (if x10 < (x0.length : Int) then (if 0 ≤ x9 then (if x9 < (x0.length : Int) then (if ((rd_T61 x0 x10).f3) < ((rd_T61 x0 x9).f3) then (spec_l5Pick.l0 k x0 x1 x2 x3 x10 (wrap64 (x10 + 1))) else (spec_l5Pick.l0 k x0 x1 x2 x3 x9 (wrap64 (x10 + 1)))) else (none)) else (none)) else (none)) else (none)) else (spec_l5Pick.l0 k x0 x1 x2 x3 x9 (wrap64 (x10 + 1))))))
end
def spec_l5Pick.f (k : Nat) (l0 : List (S61)) (l1 : List Int) (a2 : Int) (a3 : Int) : Option (Int) := spec_l5Pick.l0 k l0 l1 a2 a3 (-1) 0
theorem spec_l5Pick.mono_l : ∀ k, (∀ y0 y1 y2 y3 y4 y5, LeO (spec_l5Pick.l0 k y0 y1 y2 y3 y4 y5) (spec_l5Pick.l0 (k + 1) y0 y1 y2 y3 y4 y5)) ∧ (∀ y0 y1 y2 y3 y4 y5 y6, LeO (spec_l5Pick.j1 k y0 y1 y2 y3 y4 y5 y6) (spec_l5Pick.j1 (k + 1) y0 y1 y2 y3 y4 y5 y6))
 | 0 => ⟨fun _ _ _ _ _ _ r h => by simp [spec_l5Pick.l0] at h, fun _ _ _ _ _ _ _ r h => by simp [spec_l5Pick.j1] at h⟩
 | k + 1 => by
  obtain ⟨ih0, ih1⟩ := spec_l5Pick.mono_l k
  refine ⟨?_, ?_⟩
  ·intro y0 y1 y2 y3 y4 y5
   unfold spec_l5Pick.l0
   repeat' first
   | (with_reducible exact ih0 _ _ _ _ _ _)
   | (with_reducible exact ih1 _ _ _ _ _ _ _)
   | (with_reducible exact LeO.refl _)
   | (with_reducible exact LeO.none _)
   | (with_reducible refine LeO.ite ?_ ?_)
   | (with_reducible refine LeO.bind ?_ (fun _ => ?_))
   | exact ih0 _ _ _ _ _ _
   | exact ih1 _ _ _ _ _ _ _
   | exact LeO.none _
   | refine LeO.ite ?_ ?_
   | refine LeO.bind ?_ (fun _ => ?_)
  ·intro y0 y1 y2 y3 y4 y5 y6
   unfold spec_l5Pick.j1
   repeat' first
   | (with_reducible exact ih0 _ _ _ _ _ _)
   | (with_reducible exact ih1 _ _ _ _ _ _ _)
   | (with_reducible exact LeO.refl _)
   | (with_reducible exact LeO.none _)
   | (with_reducible refine LeO.ite ?_ ?_)
   | (with_reducible refine LeO.bind ?_ (fun _ => ?_))
   | exact ih0 _ _ _ _ _ _
   | exact ih1 _ _ _ _ _ _ _
   | exact LeO.none _
   | refine LeO.ite ?_ ?_
   | refine LeO.bind ?_ (fun _ => ?_)
theorem spec_l5Pick.mono : ∀ a0 a1 a2 a3 k, LeO (spec_l5Pick.f k a0 a1 a2 a3) (spec_l5Pick.f (k + 1) a0 a1 a2 a3) := by
 intro a0 a1 a2 a3 k
 obtain ⟨ih0, ih1⟩ := spec_l5Pick.mono_l k
 unfold spec_l5Pick.f
 repeat' first
   | (with_reducible exact ih0 _ _ _ _ _ _)
   | (with_reducible exact ih1 _ _ _ _ _ _ _)
   | (with_reducible exact LeO.refl _)
   | (with_reducible exact LeO.none _)
   | (with_reducible refine LeO.ite ?_ ?_)
   | (with_reducible refine LeO.bind ?_ (fun _ => ?_))
   | exact ih0 _ _ _ _ _ _
   | exact ih1 _ _ _ _ _ _ _
   | exact LeO.none _
   | refine LeO.ite ?_ ?_
   | refine LeO.bind ?_ (fun _ => ?_)
set_option maxHeartbeats 8000000 in
set_option maxRecDepth 100000 in
theorem spec_l5Pick.calls (k : Nat) (A0 : Option Addr) (c0 : Nat) (l0 : List (S61)) (A1 : Option Addr) (c1 : Nat) (l1 : List Int) (a2 : Int) (a3 : Int) (r : Int) (w : World) (hr0 : Kd.C k61 w A0 l0.length l0) (hc0 : l0.length ≤ c0) (hr1 : Kd.C (Kd.int .i64) w A1 l1.length l1) (hc1 : l1.length ≤ c1) (h : spec_l5Pick.f k l0 l1 a2 a3 = some r) :
  Calls Try.prog 92 #[.slice A0 l0.length c0, .slice A1 l1.length c1, .int .i64 a2, .int .i64 a3] w fun e w' => e = .returned (.int .i64 r) ∧ Drawn0 w w' := by
 have HR0 := Aside0.mk hr0
 have HC0 := Aside0.mk hc0
 clear hr0 hc0
 have HR1 := Aside0.mk hr1
 have HC1 := Aside0.mk hc1
 clear hr1 hc1
 have H : (spec_l5Pick.l0 k l0 l1 a2 a3 (-1) 0) = some r := h
 clear h
 have H' := Aside0.mk H
 clear H
 go_enter Try.func92, Try.ntmps92
 go_wp2
 repeat (go_quiet (fail); try go_wp2)
 go_loopg [9, 10] k (fun kq v9 v10 w' => ∃ (x9_1 : Int) (x10_1 : Int), v9 = .int .i64 x9_1 ∧ v10 = .int .i64 x10_1 ∧ Aside0 (spec_l5Pick.l0 kq l0 l1 a2 a3 x9_1 x10_1 = some r) ∧ Aside0 (kq ≤ k) ∧ Drawn0 w w')
 case atStart => exact ⟨((-1)), (0), (by first | rfl | (simp; done) | (simp [*]; done)), (by first | rfl | (simp; done) | (simp [*]; done)), H', ⟨Nat.le_refl _⟩, by repeat (first | exact Drawn0.refl _ | apply Drawn0.step)⟩
 case round =>
  clear H'
  try clear c1
  try clear p2
  obtain ⟨x9_1, x10_1, rfl, rfl, HA, HK1, ⟨m1, rfl⟩⟩ := hrel
  cases gk with
  | zero => exact absurd HA.out (by simp [spec_l5Pick.l0])
  | succ k1 =>
   have H := HA.out
   clear HA
   simp only [spec_l5Pick.l0] at H
   by_cases c5 : x10_1 < (l0.length : Int)
   rotate_left
   ·rw [if_neg c5] at H
    have c5b0 : decide (x10_1 < (l0.length : Int)) = false := decide_eq_false c5
    clear c5
    obtain rfl := Option.some.inj H
    go_wp2
    repeat (go_quiet (fail); try go_wp2)
    go_ret
    exact ⟨by first | rfl | (simp; done) | (simp [*]; done), by repeat (first | exact Drawn0.refl _ | apply Drawn0.step)⟩
   rw [if_pos c5] at H
   have c5b0 : decide (x10_1 < (l0.length : Int)) = true := decide_eq_true c5
   clear c5
   have HC6 := Aside0.mk H
   clear H
   go_upto_region 5 with (fail)
   repeat (go_quiet (fail); go_upto_region 5 with (fail))
   go_cut [30] (fun v30 wc => ∃ (kq : Nat) (x30_5 : Bool), v30 = .bool x30_5 ∧ Aside0 (spec_l5Pick.j1 kq l0 l1 a2 a3 x9_1 x10_1 x30_5 = some r) ∧ Aside0 (kq ≤ k1) ∧ Drawn0 w wc)
   case first =>
    have H := HC6.out
    clear HC6
    by_cases c7 : 0 ≤ x10_1
    rotate_left
    ·rw [if_neg c7] at H
     exact absurd H (by simp)
    rw [if_pos c7] at H
    have c7b0 : decide (0 ≤ x10_1) = true := decide_eq_true c7
    clear c7
    (first | rw [c7b0] | (simp only [i64_w, i32_w]; rw [c7b0]) | skip)
    by_cases c8 : x10_1 < (l1.length : Int)
    rotate_left
    ·rw [if_neg c8] at H
     exact absurd H (by simp)
    rw [if_pos c8] at H
    have c8b0 : decide (x10_1 < (l1.length : Int)) = true := decide_eq_true c8
    clear c8
    by_cases c9 : (rd l1 x10_1) = 0
    ·rw [if_pos c9] at H
     have c9b0 : ((rd l1 x10_1) == 0) = true := beq_iff_eq.mpr c9
     have c9b1 : ((rd l1 x10_1) != 0) = false := bne_eq_false_iff_eq.mpr c9
     clear c9
     have H' := Aside0.mk H
     clear H
     have p313 : 0 ≤ (x10_1 : Int) := of_decide_eq_true (by first | (with_reducible assumption) | assumption)
     have q313 : x10_1 < (l1.length : Int) := of_decide_eq_true (by first | (with_reducible assumption) | assumption)
     obtain ⟨ad313, e313, hx313_0⟩ := Kd.at_int HR1.out x10_1 p313 q313
     cases e313
     replace p313 := eq_true p313
     replace q313 := eq_true q313
     go_wp2
     repeat (go_quiet (fail); try go_wp2)
     go_meet
     case rel => exact ⟨_, (true), (by first | rfl | (simp; done) | (simp [*]; done)), H', ⟨by have := HK1.out; first | omega | exact Nat.le_refl _⟩, by repeat (first | exact Drawn0.refl _ | apply Drawn0.step)⟩
    rw [if_neg c9] at H
    have c9b0 : ((rd l1 x10_1) == 0) = false := beq_eq_false_iff_ne.mpr c9
    have c9b1 : ((rd l1 x10_1) != 0) = true := bne_iff_ne.mpr c9
    have H' := Aside0.mk H
    clear H
    have p313 : 0 ≤ (x10_1 : Int) := of_decide_eq_true (by first | (with_reducible assumption) | assumption)
    have q313 : x10_1 < (l1.length : Int) := of_decide_eq_true (by first | (with_reducible assumption) | assumption)
    obtain ⟨ad313, e313, hx313_0⟩ := Kd.at_int HR1.out x10_1 p313 q313
    cases e313
    replace p313 := eq_true p313
    replace q313 := eq_true q313
    have p314 : 0 ≤ (x10_1 : Int) := of_decide_eq_true (by first | (with_reducible assumption) | assumption)
    have q314 : x10_1 < (l0.length : Int) := of_decide_eq_true (by first | (with_reducible assumption) | assumption)
    obtain ⟨ad314, e314, hx314_0, hx314_1, hx314_2, hx314_3⟩ := at_T61 HR0.out x10_1 p314 q314
    cases e314
    replace p314 := eq_true p314
    replace q314 := eq_true q314
    go_wp2
    repeat (go_quiet (fail); try go_wp2)
    go_meet
    case rel => exact ⟨_, (decide (((rd_T61 l0 x10_1).f2) > a2)), (by first | rfl | (simp; done) | (simp [*]; done)), H', ⟨by have := HK1.out; first | omega | exact Nat.le_refl _⟩, by repeat (first | exact Drawn0.refl _ | apply Drawn0.step)⟩
   case rest =>
    clear HC6
    try clear c1
    try clear p2
    try clear p3
    try clear q3
    try clear hx3
    try clear c5
    try clear c5b0
    try clear c7
    try clear c7b0
    try clear c8
    try clear c8b0
    try clear c9
    try clear c9b0
    try clear c9b1
    try clear hx313_0
    try clear hx314_0
    try clear hx314_1
    try clear hx314_2
    try clear hx314_3
    try clear p2
    try clear p313
    try clear p314
    try clear q313
    try clear q314
    obtain ⟨kq, x30_5, rfl, HA, HJ5, ⟨mc5, rfl⟩⟩ := hcut
    cases kq with
    | zero => exact absurd HA.out (by simp [spec_l5Pick.j1])
    | succ kj5 =>
     have H := HA.out
     clear HA
     simp only [spec_l5Pick.j1] at H
     by_cases c10 : x30_5 = true
     ·subst c10
      have H1 : (spec_l5Pick.l0 kj5 l0 l1 a2 a3 x9_1 (wrap64 (x10_1 + 1))) = some r := by rw [if_pos rfl] at H; exact H
      clear H
      have H := H1
      clear H1
      have H' := Aside0.mk H
      clear H
      go_wp2
      repeat (go_quiet (fail); try go_wp2)
      go_roundg kj5
      case measure => have := HK1.out; have := HJ5.out; omega
      case rel => exact ⟨(x9_1), (wrap64 (x10_1 + 1)), (by first | rfl | (simp; done) | (simp [*]; done)), (by first | rfl | (simp; done) | (simp [*]; done)), H', ⟨by have := HK1.out; have := HJ5.out; omega⟩, by repeat (first | exact Drawn0.refl _ | apply Drawn0.step)⟩
     replace c10 := Bool.eq_false_iff.mpr c10
     subst c10
     have H1 : (if x9_1 < 0 then (spec_l5Pick.l0 kj5 l0 l1 a2 a3 x10_1 (wrap64 (x10_1 + 1))) else (if a3 = 2 then (if 0 ≤ x10_1 then (if x10_1 < (l1.length : Int) then (if 0 ≤ x9_1 then (if x9_1 < (l1.length : Int) then (if (rd l1 x10_1) < (rd l1 x9_1) then (spec_l5Pick.l0 kj5 l0 l1 a2 a3 x10_1 (wrap64 (x10_1 + 1))) else (if a3 = 4 then (if x10_1 < (l0.length : Int) then (if x9_1 < (l0.length : Int) then (if ((rd_T61 l0 x10_1).f3) < ((rd_T61 l0 x9_1).f3) then (spec_l5Pick.l0 kj5 l0 l1 a2 a3 x10_1 (wrap64 (x10_1 + 1))) else (spec_l5Pick.l0 kj5 l0 l1 a2 a3 x9_1 (wrap64 (x10_1 + 1)))) else (none)) else (none)) else (spec_l5Pick.l0 kj5 l0 l1 a2 a3 x9_1 (wrap64 (x10_1 + 1))))) else (none)) else (none)) else (none)) else (none)) else (if a3 = 4 then (if 0 ≤ x10_1 then (if x10_1 < (l0.length : Int) then (if 0 ≤ x9_1 then (if x9_1 < (l0.length : Int) then (if ((rd_T61 l0 x10_1).f3) < ((rd_T61 l0 x9_1).f3) then (spec_l5Pick.l0 kj5 l0 l1 a2 a3 x10_1 (wrap64 (x10_1 + 1))) else (spec_l5Pick.l0 kj5 l0 l1 a2 a3 x9_1 (wrap64 (x10_1 + 1)))) else (none)) else (none)) else (none)) else (none)) else (spec_l5Pick.l0 kj5 l0 l1 a2 a3 x9_1 (wrap64 (x10_1 + 1)))))) = some r := by rw [if_neg (show ¬ (false = true) by decide)] at H; exact H
     clear H
     have H := H1
     clear H1
     by_cases c11 : x9_1 < 0
     ·rw [if_pos c11] at H
      have c11b0 : decide (x9_1 < 0) = true := decide_eq_true c11
      clear c11
      have H' := Aside0.mk H
      clear H
      go_wp2
      repeat (go_quiet (fail); try go_wp2)
      go_roundg kj5
      case measure => have := HK1.out; have := HJ5.out; omega
      case rel => exact ⟨(x10_1), (wrap64 (x10_1 + 1)), (by first | rfl | (simp; done) | (simp [*]; done)), (by first | rfl | (simp; done) | (simp [*]; done)), H', ⟨by have := HK1.out; have := HJ5.out; omega⟩, by repeat (first | exact Drawn0.refl _ | apply Drawn0.step)⟩
     rw [if_neg c11] at H
     have c11b0 : decide (x9_1 < 0) = false := decide_eq_false c11
     clear c11
     by_cases c12 : a3 = 2
     rotate_left
     ·rw [if_neg c12] at H
      have c12b0 : (a3 == 2) = false := beq_eq_false_iff_ne.mpr c12
      have c12b1 : (a3 != 2) = true := bne_iff_ne.mpr c12
      by_cases c22 : a3 = 4
      rotate_left
      ·rw [if_neg c22] at H
       have c22b0 : (a3 == 4) = false := beq_eq_false_iff_ne.mpr c22
       have c22b1 : (a3 != 4) = true := bne_iff_ne.mpr c22
       have H' := Aside0.mk H
       clear H
       go_wp2
       repeat (go_quiet (fail); try go_wp2)
       go_roundg kj5
       case measure => have := HK1.out; have := HJ5.out; omega
       case rel => exact ⟨(x9_1), (wrap64 (x10_1 + 1)), (by first | rfl | (simp; done) | (simp [*]; done)), (by first | rfl | (simp; done) | (simp [*]; done)), H', ⟨by have := HK1.out; have := HJ5.out; omega⟩, by repeat (first | exact Drawn0.refl _ | apply Drawn0.step)⟩
      rw [if_pos c22] at H
      have c22b0 : (a3 == 4) = true := beq_iff_eq.mpr c22
      have c22b1 : (a3 != 4) = false := bne_eq_false_iff_eq.mpr c22
      clear c22
      by_cases c23 : 0 ≤ x10_1
      rotate_left
      ·rw [if_neg c23] at H
       exact absurd H (by simp)
      rw [if_pos c23] at H
      have c23b0 : decide (0 ≤ x10_1) = true := decide_eq_true c23
      clear c23
      by_cases c24 : x10_1 < (l0.length : Int)
      rotate_left
      ·rw [if_neg c24] at H
       exact absurd H (by simp)
      rw [if_pos c24] at H
      have c24b0 : decide (x10_1 < (l0.length : Int)) = true := decide_eq_true c24
      clear c24
      by_cases c25 : 0 ≤ x9_1
      rotate_left
      ·rw [if_neg c25] at H
       exact absurd H (by simp)
      rw [if_pos c25] at H
      have c25b0 : decide (0 ≤ x9_1) = true := decide_eq_true c25
      clear c25
      by_cases c26 : x9_1 < (l0.length : Int)
      rotate_left
      ·rw [if_neg c26] at H
       exact absurd H (by simp)
      rw [if_pos c26] at H
      have c26b0 : decide (x9_1 < (l0.length : Int)) = true := decide_eq_true c26
      clear c26
      by_cases c27 : ((rd_T61 l0 x10_1).f3) < ((rd_T61 l0 x9_1).f3)
      ·rw [if_pos c27] at H
       have c27b0 : decide (((rd_T61 l0 x10_1).f3) < ((rd_T61 l0 x9_1).f3)) = true := decide_eq_true c27
       clear c27
       have H' := Aside0.mk H
       clear H
       have p319 : 0 ≤ (x10_1 : Int) := of_decide_eq_true (by first | (with_reducible assumption) | assumption)
       have q319 : x10_1 < (l0.length : Int) := of_decide_eq_true (by first | (with_reducible assumption) | assumption)
       obtain ⟨ad319, e319, hx319_0, hx319_1, hx319_2, hx319_3⟩ := at_T61 HR0.out x10_1 p319 q319
       cases e319
       replace p319 := eq_true p319
       replace q319 := eq_true q319
       have p320 : 0 ≤ (x9_1 : Int) := of_decide_eq_true (by first | (with_reducible assumption) | assumption)
       have q320 : x9_1 < (l0.length : Int) := of_decide_eq_true (by first | (with_reducible assumption) | assumption)
       obtain ⟨ad320, e320, hx320_0, hx320_1, hx320_2, hx320_3⟩ := at_T61 HR0.out x9_1 p320 q320
       obtain rfl : ad319 = ad320 := (by injection e320)
       replace p320 := eq_true p320
       replace q320 := eq_true q320
       go_wp2
       repeat (go_quiet (fail); try go_wp2)
       go_roundg kj5
       case measure => have := HK1.out; have := HJ5.out; omega
       case rel => exact ⟨(x10_1), (wrap64 (x10_1 + 1)), (by first | rfl | (simp; done) | (simp [*]; done)), (by first | rfl | (simp; done) | (simp [*]; done)), H', ⟨by have := HK1.out; have := HJ5.out; omega⟩, by repeat (first | exact Drawn0.refl _ | apply Drawn0.step)⟩
      rw [if_neg c27] at H
      have c27b0 : decide (((rd_T61 l0 x10_1).f3) < ((rd_T61 l0 x9_1).f3)) = false := decide_eq_false c27
      clear c27
      have H' := Aside0.mk H
      clear H
      have p319 : 0 ≤ (x10_1 : Int) := of_decide_eq_true (by first | (with_reducible assumption) | assumption)
      have q319 : x10_1 < (l0.length : Int) := of_decide_eq_true (by first | (with_reducible assumption) | assumption)
      obtain ⟨ad319, e319, hx319_0, hx319_1, hx319_2, hx319_3⟩ := at_T61 HR0.out x10_1 p319 q319
      cases e319
      replace p319 := eq_true p319
      replace q319 := eq_true q319
      have p320 : 0 ≤ (x9_1 : Int) := of_decide_eq_true (by first | (with_reducible assumption) | assumption)
      have q320 : x9_1 < (l0.length : Int) := of_decide_eq_true (by first | (with_reducible assumption) | assumption)
      obtain ⟨ad320, e320, hx320_0, hx320_1, hx320_2, hx320_3⟩ := at_T61 HR0.out x9_1 p320 q320
      obtain rfl : ad319 = ad320 := (by injection e320)
      replace p320 := eq_true p320
      replace q320 := eq_true q320
      go_wp2
      repeat (go_quiet (fail); try go_wp2)
      go_roundg kj5
      case measure => have := HK1.out; have := HJ5.out; omega
      case rel => exact ⟨(x9_1), (wrap64 (x10_1 + 1)), (by first | rfl | (simp; done) | (simp [*]; done)), (by first | rfl | (simp; done) | (simp [*]; done)), H', ⟨by have := HK1.out; have := HJ5.out; omega⟩, by repeat (first | exact Drawn0.refl _ | apply Drawn0.step)⟩
     rw [if_pos c12] at H
     have c12b0 : (a3 == 2) = true := beq_iff_eq.mpr c12
     have c12b1 : (a3 != 2) = false := bne_eq_false_iff_eq.mpr c12
     clear c12
     by_cases c13 : 0 ≤ x10_1
     rotate_left
     ·rw [if_neg c13] at H
      exact absurd H (by simp)
     rw [if_pos c13] at H
     have c13b0 : decide (0 ≤ x10_1) = true := decide_eq_true c13
     clear c13
     by_cases c14 : x10_1 < (l1.length : Int)
     rotate_left
     ·rw [if_neg c14] at H
      exact absurd H (by simp)
     rw [if_pos c14] at H
     have c14b0 : decide (x10_1 < (l1.length : Int)) = true := decide_eq_true c14
     clear c14
     by_cases c15 : 0 ≤ x9_1
     rotate_left
     ·rw [if_neg c15] at H
      exact absurd H (by simp)
     rw [if_pos c15] at H
     have c15b0 : decide (0 ≤ x9_1) = true := decide_eq_true c15
     clear c15
     by_cases c16 : x9_1 < (l1.length : Int)
     rotate_left
     ·rw [if_neg c16] at H
      exact absurd H (by simp)
     rw [if_pos c16] at H
     have c16b0 : decide (x9_1 < (l1.length : Int)) = true := decide_eq_true c16
     clear c16
     by_cases c17 : (rd l1 x10_1) < (rd l1 x9_1)
     ·rw [if_pos c17] at H
      have c17b0 : decide ((rd l1 x10_1) < (rd l1 x9_1)) = true := decide_eq_true c17
      clear c17
      have H' := Aside0.mk H
      clear H
      have p315 : 0 ≤ (x10_1 : Int) := of_decide_eq_true (by first | (with_reducible assumption) | assumption)
      have q315 : x10_1 < (l1.length : Int) := of_decide_eq_true (by first | (with_reducible assumption) | assumption)
      obtain ⟨ad315, e315, hx315_0⟩ := Kd.at_int HR1.out x10_1 p315 q315
      cases e315
      replace p315 := eq_true p315
      replace q315 := eq_true q315
      have p316 : 0 ≤ (x9_1 : Int) := of_decide_eq_true (by first | (with_reducible assumption) | assumption)
      have q316 : x9_1 < (l1.length : Int) := of_decide_eq_true (by first | (with_reducible assumption) | assumption)
      obtain ⟨ad316, e316, hx316_0⟩ := Kd.at_int HR1.out x9_1 p316 q316
      obtain rfl : ad315 = ad316 := (by injection e316)
      replace p316 := eq_true p316
      replace q316 := eq_true q316
      go_wp2
      repeat (go_quiet (fail); try go_wp2)
      go_roundg kj5
      case measure => have := HK1.out; have := HJ5.out; omega
      case rel => exact ⟨(x10_1), (wrap64 (x10_1 + 1)), (by first | rfl | (simp; done) | (simp [*]; done)), (by first | rfl | (simp; done) | (simp [*]; done)), H', ⟨by have := HK1.out; have := HJ5.out; omega⟩, by repeat (first | exact Drawn0.refl _ | apply Drawn0.step)⟩
     rw [if_neg c17] at H
     have c17b0 : decide ((rd l1 x10_1) < (rd l1 x9_1)) = false := decide_eq_false c17
     clear c17
     by_cases c18 : a3 = 4
     rotate_left
     ·rw [if_neg c18] at H
      have c18b0 : (a3 == 4) = false := beq_eq_false_iff_ne.mpr c18
      have c18b1 : (a3 != 4) = true := bne_iff_ne.mpr c18
      have H' := Aside0.mk H
      clear H
      have p315 : 0 ≤ (x10_1 : Int) := of_decide_eq_true (by first | (with_reducible assumption) | assumption)
      have q315 : x10_1 < (l1.length : Int) := of_decide_eq_true (by first | (with_reducible assumption) | assumption)
      obtain ⟨ad315, e315, hx315_0⟩ := Kd.at_int HR1.out x10_1 p315 q315
      cases e315
      replace p315 := eq_true p315
      replace q315 := eq_true q315
      have p316 : 0 ≤ (x9_1 : Int) := of_decide_eq_true (by first | (with_reducible assumption) | assumption)
      have q316 : x9_1 < (l1.length : Int) := of_decide_eq_true (by first | (with_reducible assumption) | assumption)
      obtain ⟨ad316, e316, hx316_0⟩ := Kd.at_int HR1.out x9_1 p316 q316
      obtain rfl : ad315 = ad316 := (by injection e316)
      replace p316 := eq_true p316
      replace q316 := eq_true q316
      go_wp2
      repeat (go_quiet (fail); try go_wp2)
      go_roundg kj5
      case measure => have := HK1.out; have := HJ5.out; omega
      case rel => exact ⟨(x9_1), (wrap64 (x10_1 + 1)), (by first | rfl | (simp; done) | (simp [*]; done)), (by first | rfl | (simp; done) | (simp [*]; done)), H', ⟨by have := HK1.out; have := HJ5.out; omega⟩, by repeat (first | exact Drawn0.refl _ | apply Drawn0.step)⟩
     rw [if_pos c18] at H
     have c18b0 : (a3 == 4) = true := beq_iff_eq.mpr c18
     have c18b1 : (a3 != 4) = false := bne_eq_false_iff_eq.mpr c18
     clear c18
     by_cases c19 : x10_1 < (l0.length : Int)
     rotate_left
     ·rw [if_neg c19] at H
      exact absurd H (by simp)
     rw [if_pos c19] at H
     have c19b0 : decide (x10_1 < (l0.length : Int)) = true := decide_eq_true c19
     clear c19
     by_cases c20 : x9_1 < (l0.length : Int)
     rotate_left
     ·rw [if_neg c20] at H
      exact absurd H (by simp)
     rw [if_pos c20] at H
     have c20b0 : decide (x9_1 < (l0.length : Int)) = true := decide_eq_true c20
     clear c20
     by_cases c21 : ((rd_T61 l0 x10_1).f3) < ((rd_T61 l0 x9_1).f3)
     ·rw [if_pos c21] at H
      have c21b0 : decide (((rd_T61 l0 x10_1).f3) < ((rd_T61 l0 x9_1).f3)) = true := decide_eq_true c21
      clear c21
      have H' := Aside0.mk H
      clear H
      have p315 : 0 ≤ (x10_1 : Int) := of_decide_eq_true (by first | (with_reducible assumption) | assumption)
      have q315 : x10_1 < (l1.length : Int) := of_decide_eq_true (by first | (with_reducible assumption) | assumption)
      obtain ⟨ad315, e315, hx315_0⟩ := Kd.at_int HR1.out x10_1 p315 q315
      cases e315
      replace p315 := eq_true p315
      replace q315 := eq_true q315
      have p316 : 0 ≤ (x9_1 : Int) := of_decide_eq_true (by first | (with_reducible assumption) | assumption)
      have q316 : x9_1 < (l1.length : Int) := of_decide_eq_true (by first | (with_reducible assumption) | assumption)
      obtain ⟨ad316, e316, hx316_0⟩ := Kd.at_int HR1.out x9_1 p316 q316
      obtain rfl : ad315 = ad316 := (by injection e316)
      replace p316 := eq_true p316
      replace q316 := eq_true q316
      have p317 : 0 ≤ (x10_1 : Int) := of_decide_eq_true (by first | (with_reducible assumption) | assumption)
      have q317 : x10_1 < (l0.length : Int) := of_decide_eq_true (by first | (with_reducible assumption) | assumption)
      obtain ⟨ad317, e317, hx317_0, hx317_1, hx317_2, hx317_3⟩ := at_T61 HR0.out x10_1 p317 q317
      cases e317
      replace p317 := eq_true p317
      replace q317 := eq_true q317
      have p318 : 0 ≤ (x9_1 : Int) := of_decide_eq_true (by first | (with_reducible assumption) | assumption)
      have q318 : x9_1 < (l0.length : Int) := of_decide_eq_true (by first | (with_reducible assumption) | assumption)
      obtain ⟨ad318, e318, hx318_0, hx318_1, hx318_2, hx318_3⟩ := at_T61 HR0.out x9_1 p318 q318
      obtain rfl : ad317 = ad318 := (by injection e318)
      replace p318 := eq_true p318
      replace q318 := eq_true q318
      go_wp2
      repeat (go_quiet (fail); try go_wp2)
      go_roundg kj5
      case measure => have := HK1.out; have := HJ5.out; omega
      case rel => exact ⟨(x10_1), (wrap64 (x10_1 + 1)), (by first | rfl | (simp; done) | (simp [*]; done)), (by first | rfl | (simp; done) | (simp [*]; done)), H', ⟨by have := HK1.out; have := HJ5.out; omega⟩, by repeat (first | exact Drawn0.refl _ | apply Drawn0.step)⟩
     rw [if_neg c21] at H
     have c21b0 : decide (((rd_T61 l0 x10_1).f3) < ((rd_T61 l0 x9_1).f3)) = false := decide_eq_false c21
     clear c21
     have H' := Aside0.mk H
     clear H
     have p315 : 0 ≤ (x10_1 : Int) := of_decide_eq_true (by first | (with_reducible assumption) | assumption)
     have q315 : x10_1 < (l1.length : Int) := of_decide_eq_true (by first | (with_reducible assumption) | assumption)
     obtain ⟨ad315, e315, hx315_0⟩ := Kd.at_int HR1.out x10_1 p315 q315
     cases e315
     replace p315 := eq_true p315
     replace q315 := eq_true q315
     have p316 : 0 ≤ (x9_1 : Int) := of_decide_eq_true (by first | (with_reducible assumption) | assumption)
     have q316 : x9_1 < (l1.length : Int) := of_decide_eq_true (by first | (with_reducible assumption) | assumption)
     obtain ⟨ad316, e316, hx316_0⟩ := Kd.at_int HR1.out x9_1 p316 q316
     obtain rfl : ad315 = ad316 := (by injection e316)
     replace p316 := eq_true p316
     replace q316 := eq_true q316
     have p317 : 0 ≤ (x10_1 : Int) := of_decide_eq_true (by first | (with_reducible assumption) | assumption)
     have q317 : x10_1 < (l0.length : Int) := of_decide_eq_true (by first | (with_reducible assumption) | assumption)
     obtain ⟨ad317, e317, hx317_0, hx317_1, hx317_2, hx317_3⟩ := at_T61 HR0.out x10_1 p317 q317
     cases e317
     replace p317 := eq_true p317
     replace q317 := eq_true q317
     have p318 : 0 ≤ (x9_1 : Int) := of_decide_eq_true (by first | (with_reducible assumption) | assumption)
     have q318 : x9_1 < (l0.length : Int) := of_decide_eq_true (by first | (with_reducible assumption) | assumption)
     obtain ⟨ad318, e318, hx318_0, hx318_1, hx318_2, hx318_3⟩ := at_T61 HR0.out x9_1 p318 q318
     obtain rfl : ad317 = ad318 := (by injection e318)
     replace p318 := eq_true p318
     replace q318 := eq_true q318
     go_wp2
     repeat (go_quiet (fail); try go_wp2)
     go_roundg kj5
     case measure => have := HK1.out; have := HJ5.out; omega
     case rel => exact ⟨(x9_1), (wrap64 (x10_1 + 1)), (by first | rfl | (simp; done) | (simp [*]; done)), (by first | rfl | (simp; done) | (simp [*]; done)), H', ⟨by have := HK1.out; have := HJ5.out; omega⟩, by repeat (first | exact Drawn0.refl _ | apply Drawn0.step)⟩

/-! ### spec_l5Choose: function 69 -/
mutual
def spec_l5Choose.l0 : Nat → List (S61) → Int → Int → List (S92) → List Int → Int → Int → Option ((List (S92)))
 | 0, _, _, _, _, _, _, _ => none
 | k + 1, x0, x2, x3, x9, x10, x11, x12 => if x12 < (x10.length : Int) then (if 0 ≤ x12 then (spec_l5Choose.l0 k x0 x2 x3 x9 x10 (wrap64 (x11 + (rd x10 x12))) (wrap64 (x12 + 1))) else (none)) else (spec_l5Choose.l1 k x0 x3 x9 x10 x11 x2)
def spec_l5Choose.l1 : Nat → List (S61) → Int → List (S92) → List Int → Int → Int → Option ((List (S92)))
 | 0, _, _, _, _, _, _ => none
 | k + 1, x0, x3, x9, x10, x11, x13 => if x11 > 0 then ((spec_l5Pick.f k x0 x10 x13 x3).bind fun t328 => (if t328 < 0 then (spec_l5Choose.l1 k x0 x3 x9 x10 x11 (wrap64 (x13 + 1))) else (if (wrap64 ((x9.length : Int) - 1)) ≥ 0 then (if 0 ≤ (wrap64 ((x9.length : Int) - 1)) then (if (wrap64 ((x9.length : Int) - 1)) < (x9.length : Int) then (if ((rd_T92 x9 (wrap64 ((x9.length : Int) - 1))).f0) = t328 then (if ((rd_T92 x9 (wrap64 ((x9.length : Int) - 1))).f2) = x13 then (if 0 ≤ t328 then (if t328 < (x10.length : Int) then (spec_l5Choose.l1 k x0 x3 (x9.set ((wrap64 ((x9.length : Int) - 1)) : Int).toNat (⟨(rd_T92 x9 (wrap64 ((x9.length : Int) - 1))).f0, (rd_T92 x9 (wrap64 ((x9.length : Int) - 1))).f1, wrap64 (x13 + 1)⟩ : S92)) (x10.set (t328 : Int).toNat (wrap64 ((rd x10 t328) - 1))) (wrap64 (x11 - 1)) (wrap64 (x13 + 1))) else (none)) else (none)) else (if x9.length < 5864062014805 then (if 0 ≤ t328 then (if t328 < (x10.length : Int) then (spec_l5Choose.l1 k x0 x3 (x9 ++ [(⟨t328, x13, wrap64 (x13 + 1)⟩ : S92)]) (x10.set (t328 : Int).toNat (wrap64 ((rd x10 t328) - 1))) (wrap64 (x11 - 1)) (wrap64 (x13 + 1))) else (none)) else (none)) else (none))) else (if x9.length < 5864062014805 then (if 0 ≤ t328 then (if t328 < (x10.length : Int) then (spec_l5Choose.l1 k x0 x3 (x9 ++ [(⟨t328, x13, wrap64 (x13 + 1)⟩ : S92)]) (x10.set (t328 : Int).toNat (wrap64 ((rd x10 t328) - 1))) (wrap64 (x11 - 1)) (wrap64 (x13 + 1))) else (none)) else (none)) else (none))) else (none)) else (none)) else (if x9.length < 5864062014805 then (if 0 ≤ t328 then (if t328 < (x10.length : Int) then (spec_l5Choose.l1 k x0 x3 (x9 ++ [(⟨t328, x13, wrap64 (x13 + 1)⟩ : S92)]) (x10.set (t328 : Int).toNat (wrap64 ((rd x10 t328) - 1))) (wrap64 (x11 - 1)) (wrap64 (x13 + 1))) else (none)) else (none)) else (none))))) else (some x9)
end
def spec_l5Choose.f (k : Nat) (l0 : List (S61)) (l1 : List Int) (a2 : Int) (a3 : Int) : Option ((List (S92))) := (spec_l1Own.f l1).bind fun t324 => (spec_l5Choose.l0 k l0 a2 a3 (([] : List (S92))) t324 0 0)
theorem spec_l5Choose.mono_l : ∀ k, (∀ y0 y1 y2 y3 y4 y5 y6, LeO (spec_l5Choose.l0 k y0 y1 y2 y3 y4 y5 y6) (spec_l5Choose.l0 (k + 1) y0 y1 y2 y3 y4 y5 y6)) ∧ (∀ y0 y1 y2 y3 y4 y5, LeO (spec_l5Choose.l1 k y0 y1 y2 y3 y4 y5) (spec_l5Choose.l1 (k + 1) y0 y1 y2 y3 y4 y5))
 | 0 => ⟨fun _ _ _ _ _ _ _ r h => by simp [spec_l5Choose.l0] at h, fun _ _ _ _ _ _ r h => by simp [spec_l5Choose.l1] at h⟩
 | k + 1 => by
  obtain ⟨ih0, ih1⟩ := spec_l5Choose.mono_l k
  refine ⟨?_, ?_⟩
  ·intro y0 y1 y2 y3 y4 y5 y6
   unfold spec_l5Choose.l0
   repeat' first
   | (with_reducible exact ih0 _ _ _ _ _ _ _)
   | (with_reducible exact ih1 _ _ _ _ _ _)
   | (with_reducible exact spec_l5Pick.mono _ _ _ _ _)
   | (with_reducible exact LeO.refl _)
   | (with_reducible exact LeO.none _)
   | (with_reducible refine LeO.ite ?_ ?_)
   | (with_reducible refine LeO.bind ?_ (fun _ => ?_))
   | exact ih0 _ _ _ _ _ _ _
   | exact ih1 _ _ _ _ _ _
   | exact spec_l5Pick.mono _ _ _ _ _
   | exact LeO.none _
   | refine LeO.ite ?_ ?_
   | refine LeO.bind ?_ (fun _ => ?_)
  ·intro y0 y1 y2 y3 y4 y5
   unfold spec_l5Choose.l1
   repeat' first
   | (with_reducible exact ih0 _ _ _ _ _ _ _)
   | (with_reducible exact ih1 _ _ _ _ _ _)
   | (with_reducible exact spec_l5Pick.mono _ _ _ _ _)
   | (with_reducible exact LeO.refl _)
   | (with_reducible exact LeO.none _)
   | (with_reducible refine LeO.ite ?_ ?_)
   | (with_reducible refine LeO.bind ?_ (fun _ => ?_))
   | exact ih0 _ _ _ _ _ _ _
   | exact ih1 _ _ _ _ _ _
   | exact spec_l5Pick.mono _ _ _ _ _
   | exact LeO.none _
   | refine LeO.ite ?_ ?_
   | refine LeO.bind ?_ (fun _ => ?_)
theorem spec_l5Choose.mono : ∀ a0 a1 a2 a3 k, LeO (spec_l5Choose.f k a0 a1 a2 a3) (spec_l5Choose.f (k + 1) a0 a1 a2 a3) := by
 intro a0 a1 a2 a3 k
 obtain ⟨ih0, ih1⟩ := spec_l5Choose.mono_l k
 unfold spec_l5Choose.f
 repeat' first
   | (with_reducible exact ih0 _ _ _ _ _ _ _)
   | (with_reducible exact ih1 _ _ _ _ _ _)
   | (with_reducible exact spec_l5Pick.mono _ _ _ _ _)
   | (with_reducible exact LeO.refl _)
   | (with_reducible exact LeO.none _)
   | (with_reducible refine LeO.ite ?_ ?_)
   | (with_reducible refine LeO.bind ?_ (fun _ => ?_))
   | exact ih0 _ _ _ _ _ _ _
   | exact ih1 _ _ _ _ _ _
   | exact spec_l5Pick.mono _ _ _ _ _
   | exact LeO.none _
   | refine LeO.ite ?_ ?_
   | refine LeO.bind ?_ (fun _ => ?_)
set_option maxHeartbeats 8000000 in
set_option maxRecDepth 100000 in
theorem spec_l5Choose.calls (k : Nat) (A0 : Option Addr) (c0 : Nat) (l0 : List (S61)) (A1 : Option Addr) (c1 : Nat) (l1 : List Int) (a2 : Int) (a3 : Int) (r : List (S92)) (w : World) (hr0 : Kd.C k61 w A0 l0.length l0) (hc0 : l0.length ≤ c0) (hr1 : Kd.C (Kd.int .i64) w A1 l1.length l1) (hc1 : l1.length ≤ c1) (h : spec_l5Choose.f k l0 l1 a2 a3 = some r) :
  Calls Try.prog 69 #[.slice A0 l0.length c0, .slice A1 l1.length c1, .int .i64 a2, .int .i64 a3] w fun e w' => ∃ v0_ : Value, e = .returned (v0_) ∧ Kd.R k92 92 w' w.heap.size (fun _ => True) v0_ r ∧ Below w.heap.size w w' := by
 have hu92 := Try.underlying92
 have HR0 := Aside0.mk hr0
 have HC0 := Aside0.mk hc0
 clear hr0 hc0
 have HR1 := Aside0.mk hr1
 have HC1 := Aside0.mk hc1
 clear hr1 hc1
 have HB := Aside0.mk (Below.refl w.heap.size w)
 have H : ((spec_l1Own.f l1).bind fun t324 => (spec_l5Choose.l0 k l0 a2 a3 (([] : List (S92))) t324 0 0)) = some r := h
 clear h
 obtain ⟨y321, hy321⟩ : ∃ y_ : List (S92), y_ = (([] : List (S92))) := ⟨_, rfl⟩
 replace H : ((spec_l1Own.f l1).bind fun t324 => (spec_l5Choose.l0 k l0 a2 a3 y321 t324 0 0)) = some r := by first | (rw [hy321]; with_reducible exact H) | (have H2_ := (Option.bind_some _ _).symm.trans H; rw [hy321]; with_reducible exact H2_) | (have H2_ := (Option.bind_some _ _).symm.trans H; with_reducible exact H2_) | with_reducible exact H | (rw [hy321]; exact H) | exact H
 have Ny321 := Aside0.mk hy321
 clear hy321
 replace H := Option.bind_eq_some_iff.mp H
 obtain ⟨t324, A50, H⟩ := H
 replace H : (spec_l5Choose.l0 k l0 a2 a3 y321 t324 0 0) = some r := H
 have A5 := Aside0.mk A50
 clear A50
 have H' := Aside0.mk H
 clear H
 go_enter Try.func69, Try.ntmps69
 go_wp2_with (first | ((with_reducible refine gate_dst (N := 16) rfl ?_); refine Kd.R_lit k92 _ 92 ?hg (N := 16) ?hd (xs := ([] : List (S92))) (inner := []) (ok := fun _ => True) (okp := fun _ => True) ?hr ?hp (fun _ hk => hk) trivial (Below.refl _ _) (Nat.le_refl _) (by simp) ?_; (case hd => rfl); (case hg => rfl); (case hr => first | (go_simp; done) | (go_simp; rfl)); (case hp => exact (Reps.none _ _)); intro v322 w6 ho7 hb hg_ hnew_; clear hg_ hnew_; (first | rw [← Ny321.out] at ho7 | (simp only [Int.reduceToNat] at ho7; rw [← Ny321.out] at ho7)); have n0_ := Aside0.mk (Kd.R_lower ho7 (below_size (bw HB.out))); have n1_ := Aside0.mk (below_step (bw HB.out) hb); have HO323 := n0_; replace HB := n1_; clear n0_ n1_; clear hb ho7) | ((with_reducible refine gate_callee (f := 91) rfl ?_); refine goesL_ (some 18) rfl rfl Try.func91 (by kernel_rfl) rfl #[.slice A1 l1.length c1] rfl (by (try simp only [mA_]); first | done | rfl | (simp only [List.length_drop, List.length_take]; rfl)) ?_; (with_reducible refine (spec_l1Own.calls _ _ l1 t324 _ ?side1 ?side2 A5.out).mono ?_); (case side1 => first | exact bC HR1.out HB.out | exact Kd.C_below HR1.out HB.out); (case side2 => exact HC1.out); rintro e w8 ⟨v325, rfl, ho0, hb⟩; refine ⟨_, rfl, ?_⟩; have n0_ := Aside0.mk (Kd.R_below (bR HO323.out) hb); have n1_ := Aside0.mk (Kd.R_lower ho0 (below_size (bw HB.out))); have n2_ := Aside0.mk (below_step (bw HB.out) hb); replace HO323 := n0_; have HO326 := n1_; replace HB := n2_; clear n0_ n1_ n2_; (try clear hb); (try clear hb2); (try clear hk); (try clear hi); (try clear ho0)))
 go_loopg [11, 12] k (fun kq v11 v12 w' => ∃ (x11_1 : Int) (x12_1 : Int), v11 = .int .i64 x11_1 ∧ v12 = .int .i64 x12_1 ∧ Aside0 (spec_l5Choose.l0 kq l0 a2 a3 y321 t324 x11_1 x12_1 = some r) ∧ Aside0 (kq ≤ k) ∧ Aside0 (Kd.R k92 92 w' w.heap.size (fun _ => True) v322 y321) ∧ Aside0 (Kd.R (Kd.int .i64) 3 w' w.heap.size (fun _ => True) v325 t324) ∧ Aside0 (Below w.heap.size w w'))
 case atStart => exact ⟨(0), (0), (by first | rfl | (simp; done) | (simp [*]; done)), (by first | rfl | (simp; done) | (simp [*]; done)), H', ⟨Nat.le_refl _⟩, ⟨bR HO323.out⟩, ⟨bR HO326.out⟩, ⟨bw HB.out⟩⟩
 case round =>
  clear H'
  try clear c1
  try clear p2
  try clear c6
  obtain ⟨x11_1, x12_1, rfl, rfl, HA, HK1, HO_9, HO_10, HB⟩ := hrel
  cases gk with
  | zero => exact absurd HA.out (by simp [spec_l5Choose.l0])
  | succ k1 =>
   have H := HA.out
   clear HA
   simp only [spec_l5Choose.l0] at H
   by_cases c9 : x12_1 < (t324.length : Int)
   ·rw [if_pos c9] at H
    have c9b0 : decide (x12_1 < (t324.length : Int)) = true := decide_eq_true c9
    clear c9
    by_cases c10 : 0 ≤ x12_1
    rotate_left
    ·rw [if_neg c10] at H
     exact absurd H (by simp)
    rw [if_pos c10] at H
    have c10b0 : decide (0 ≤ x12_1) = true := decide_eq_true c10
    clear c10
    have H' := Aside0.mk H
    clear H
    obtain ⟨Ao11, co11, eo11⟩ := Kd.R_slice HO_10.out
    subst eo11
    have p327 : 0 ≤ (x12_1 : Int) := of_decide_eq_true (by first | (with_reducible assumption) | assumption)
    have q327 : x12_1 < (t324.length : Int) := of_decide_eq_true (by first | (with_reducible assumption) | assumption)
    obtain ⟨ad327, e327, hx327_0⟩ := Kd.at_int (Kd.R_reads' HO_10.out).2.2 x12_1 p327 q327
    cases e327
    replace p327 := eq_true p327
    replace q327 := eq_true q327
    go_wp2
    go_roundg k1
    case measure => have := HK1.out; omega
    case rel => exact ⟨(wrap64 (x11_1 + (rd t324 x12_1))), (wrap64 (x12_1 + 1)), (by first | rfl | (simp; done) | (simp [*]; done)), (by first | rfl | (simp; done) | (simp [*]; done)), H', ⟨by have := HK1.out; omega⟩, ⟨bR HO_9.out⟩, ⟨bR HO_10.out⟩, ⟨bw HB.out⟩⟩
   rw [if_neg c9] at H
   have c9b0 : decide (x12_1 < (t324.length : Int)) = false := decide_eq_false c9
   clear c9
   have H' := Aside0.mk H
   clear H
   obtain ⟨Ao12, co12, eo12⟩ := Kd.R_slice HO_10.out
   subst eo12
   go_wp2
   go_loopg [9, 11, 13] k1 (fun kq v9 v11 v13 w' => ∃ (x9_2 : List (S92)) (x10_2 : List Int) (x11_2 : Int) (x13_2 : Int), v11 = .int .i64 x11_2 ∧ v13 = .int .i64 x13_2 ∧ Aside0 (spec_l5Choose.l1 kq l0 a3 x9_2 x10_2 x11_2 x13_2 = some r) ∧ Aside0 (kq ≤ k1) ∧ Aside0 (Kd.R k92 92 w' w.heap.size (fun _ => True) v9 x9_2) ∧ Aside0 (Kd.R (Kd.int .i64) 3 w' w.heap.size (fun _ => True) (.slice Ao12 t324.length co12) x10_2) ∧ Aside0 (Below w.heap.size w w'))
   case atStart => exact ⟨(y321), (t324), (x11_1), (a2), (by first | rfl | (simp; done) | (simp [*]; done)), (by first | rfl | (simp; done) | (simp [*]; done)), H', ⟨Nat.le_refl _⟩, ⟨bR HO_9.out⟩, ⟨bR HO_10.out⟩, ⟨bw HB.out⟩⟩
   case round =>
    clear H'
    try clear c1
    try clear p2
    try clear p3
    try clear q3
    try clear hx3
    try clear c6
    try clear p6
    try clear c9
    try clear c9b0
    try clear c10
    try clear c10b0
    try clear hx327_0
    try clear p2
    try clear p327
    try clear q327
    obtain ⟨x9_2, x10_2, x11_2, x13_2, rfl, rfl, HA, HK2, HO_9, HO_10, HB⟩ := hrel
    have hl10_2 := (Kd.R_reads' HO_10.out).1
    rw [hl10_2] at HO_10
    (try simp only [hl10_2])
    (try simp only [hl10_2] at HO_9)
    cases gk with
    | zero => exact absurd HA.out (by simp [spec_l5Choose.l1])
    | succ k2 =>
     have H := HA.out
     clear HA
     simp only [spec_l5Choose.l1] at H
     by_cases c13 : x11_2 > 0
     rotate_left
     ·rw [if_neg c13] at H
      have c13b0 : decide (0 < x11_2) = false := decide_eq_false c13
      clear c13
      obtain rfl := Option.some.inj H
      go_wp2
      go_ret
      exact ⟨_, by first | rfl | (simp [errW_none, errW_some] <;> rfl) | (simp [*, errW_none, errW_some] <;> rfl), by (with_reducible repeat (first | apply Kd.R_alloc | apply Kd.R_drewN | apply Kd.R_drew)); exact HO_9.out, bw HB.out⟩
     rw [if_pos c13] at H
     have c13b0 : decide (0 < x11_2) = true := decide_eq_true c13
     clear c13
     replace H := Option.bind_eq_some_iff.mp H
     obtain ⟨t328, A140, H⟩ := H
     replace H : (if t328 < 0 then (spec_l5Choose.l1 k2 l0 a3 x9_2 x10_2 x11_2 (wrap64 (x13_2 + 1))) else (if (wrap64 ((x9_2.length : Int) - 1)) ≥ 0 then (if 0 ≤ (wrap64 ((x9_2.length : Int) - 1)) then (if (wrap64 ((x9_2.length : Int) - 1)) < (x9_2.length : Int) then (if ((rd_T92 x9_2 (wrap64 ((x9_2.length : Int) - 1))).f0) = t328 then (if ((rd_T92 x9_2 (wrap64 ((x9_2.length : Int) - 1))).f2) = x13_2 then (if 0 ≤ t328 then (if t328 < (x10_2.length : Int) then (spec_l5Choose.l1 k2 l0 a3 (x9_2.set ((wrap64 ((x9_2.length : Int) - 1)) : Int).toNat (⟨(rd_T92 x9_2 (wrap64 ((x9_2.length : Int) - 1))).f0, (rd_T92 x9_2 (wrap64 ((x9_2.length : Int) - 1))).f1, wrap64 (x13_2 + 1)⟩ : S92)) (x10_2.set (t328 : Int).toNat (wrap64 ((rd x10_2 t328) - 1))) (wrap64 (x11_2 - 1)) (wrap64 (x13_2 + 1))) else (none)) else (none)) else (if x9_2.length < 5864062014805 then (if 0 ≤ t328 then (if t328 < (x10_2.length : Int) then (spec_l5Choose.l1 k2 l0 a3 (x9_2 ++ [(⟨t328, x13_2, wrap64 (x13_2 + 1)⟩ : S92)]) (x10_2.set (t328 : Int).toNat (wrap64 ((rd x10_2 t328) - 1))) (wrap64 (x11_2 - 1)) (wrap64 (x13_2 + 1))) else (none)) else (none)) else (none))) else (if x9_2.length < 5864062014805 then (if 0 ≤ t328 then (if t328 < (x10_2.length : Int) then (spec_l5Choose.l1 k2 l0 a3 (x9_2 ++ [(⟨t328, x13_2, wrap64 (x13_2 + 1)⟩ : S92)]) (x10_2.set (t328 : Int).toNat (wrap64 ((rd x10_2 t328) - 1))) (wrap64 (x11_2 - 1)) (wrap64 (x13_2 + 1))) else (none)) else (none)) else (none))) else (none)) else (none)) else (if x9_2.length < 5864062014805 then (if 0 ≤ t328 then (if t328 < (x10_2.length : Int) then (spec_l5Choose.l1 k2 l0 a3 (x9_2 ++ [(⟨t328, x13_2, wrap64 (x13_2 + 1)⟩ : S92)]) (x10_2.set (t328 : Int).toNat (wrap64 ((rd x10_2 t328) - 1))) (wrap64 (x11_2 - 1)) (wrap64 (x13_2 + 1))) else (none)) else (none)) else (none)))) = some r := H
     have A14 := Aside0.mk A140
     clear A140
     by_cases c15 : t328 < 0
     ·rw [if_pos c15] at H
      have c15b0 : decide (t328 < 0) = true := decide_eq_true c15
      clear c15
      have H' := Aside0.mk H
      clear H
      go_wp2_with (first | ((with_reducible refine gate_callee (f := 92) rfl ?_); refine goesL_ (some 40) rfl rfl Try.func92 (by kernel_rfl) rfl #[.slice A0 l0.length c0, .slice Ao12 x10_2.length co12, .int .i64 x13_2, .int .i64 a3] rfl (by (try simp only [mA_]); first | done | rfl | (simp only [List.length_drop, List.length_take]; rfl)) ?_; (with_reducible refine (spec_l5Pick.calls k2 _ _ l0 _ _ x10_2 x13_2 a3 t328 _ ?side1 ?side2 ?side3 ?side4 A14.out).mono ?_); (case side1 => first | exact bC HR0.out HB.out | exact Kd.C_below HR0.out HB.out); (case side2 => exact HC0.out); (case side3 => repeat (first | exact (Kd.R_reads' HO_10.out).2.2 | (with_reducible refine Kd.C_alloc ?_ _) | (with_reducible refine Kd.C_drewN ?_ _) | (with_reducible refine Kd.C_drew ?_))); (case side4 => exact (Kd.R_reads' HO_10.out).2.1); rintro e w' ⟨rfl, ⟨nd, rfl⟩⟩; refine ⟨_, rfl, ?_⟩))
      (try simp only [← hl10_2])
      go_roundg k2
      case measure => have := HK1.out; have := HK2.out; omega
      case rel => exact ⟨(x9_2), (x10_2), (x11_2), (wrap64 (x13_2 + 1)), (by first | rfl | (simp; done) | (simp [*]; done)), (by first | rfl | (simp; done) | (simp [*]; done)), H', ⟨by have := HK1.out; have := HK2.out; omega⟩, ⟨by (try simp only [hl10_2]); (with_reducible repeat (first | apply Kd.R_alloc | apply Kd.R_drewN | apply Kd.R_drew)); exact HO_9.out⟩, ⟨by (try simp only [hl10_2]); (with_reducible repeat (first | apply Kd.R_alloc | apply Kd.R_drewN | apply Kd.R_drew)); exact HO_10.out⟩, ⟨bw HB.out⟩⟩
     rw [if_neg c15] at H
     have c15b0 : decide (t328 < 0) = false := decide_eq_false c15
     clear c15
     by_cases c16 : (wrap64 ((x9_2.length : Int) - 1)) ≥ 0
     rotate_left
     ·rw [if_neg c16] at H
      have c16b0 : decide (0 ≤ (wrap64 ((x9_2.length : Int) - 1))) = false := decide_eq_false c16
      clear c16
      by_cases c47 : x9_2.length < 5864062014805
      rotate_left
      ·rw [if_neg c47] at H
       exact absurd H (by simp)
      rw [if_pos c47] at H
      have LMc47 := Aside0.mk c47
      clear c47
      obtain ⟨y344, hy344⟩ : ∃ y_ : List (S92), y_ = (x9_2 ++ [(⟨t328, x13_2, wrap64 (x13_2 + 1)⟩ : S92)]) := ⟨_, rfl⟩
      replace H : (if 0 ≤ t328 then (if t328 < (x10_2.length : Int) then (spec_l5Choose.l1 k2 l0 a3 y344 (x10_2.set (t328 : Int).toNat (wrap64 ((rd x10_2 t328) - 1))) (wrap64 (x11_2 - 1)) (wrap64 (x13_2 + 1))) else (none)) else (none)) = some r := by first | (rw [hy344]; with_reducible exact H) | (have H2_ := (Option.bind_some _ _).symm.trans H; rw [hy344]; with_reducible exact H2_) | (have H2_ := (Option.bind_some _ _).symm.trans H; with_reducible exact H2_) | with_reducible exact H | (rw [hy344]; exact H) | exact H
      have Ny344 := Aside0.mk hy344
      clear hy344
      by_cases c48 : 0 ≤ t328
      rotate_left
      ·rw [if_neg c48] at H
       exact absurd H (by simp)
      rw [if_pos c48] at H
      have c48b0 : decide (0 ≤ t328) = true := decide_eq_true c48
      clear c48
      by_cases c49 : t328 < (x10_2.length : Int)
      rotate_left
      ·rw [if_neg c49] at H
       exact absurd H (by simp)
      rw [if_pos c49] at H
      have c49b0 : decide (t328 < (x10_2.length : Int)) = true := decide_eq_true c49
      clear c49
      obtain ⟨y348, hy348⟩ : ∃ y_ : List Int, y_ = (x10_2.set (t328 : Int).toNat (wrap64 ((rd x10_2 t328) - 1))) := ⟨_, rfl⟩
      replace H : (spec_l5Choose.l1 k2 l0 a3 y344 y348 (wrap64 (x11_2 - 1)) (wrap64 (x13_2 + 1))) = some r := by first | (rw [hy348]; with_reducible exact H) | (have H2_ := (Option.bind_some _ _).symm.trans H; rw [hy348]; with_reducible exact H2_) | (have H2_ := (Option.bind_some _ _).symm.trans H; with_reducible exact H2_) | with_reducible exact H | (rw [hy348]; exact H) | exact H
      have Ny348 := Aside0.mk hy348
      clear hy348
      have H' := Aside0.mk H
      clear H
      go_wp2_with (first | ((with_reducible refine gate_callee (f := 92) rfl ?_); refine goesL_ (some 40) rfl rfl Try.func92 (by kernel_rfl) rfl #[.slice A0 l0.length c0, .slice Ao12 x10_2.length co12, .int .i64 x13_2, .int .i64 a3] rfl (by (try simp only [mA_]); first | done | rfl | (simp only [List.length_drop, List.length_take]; rfl)) ?_; (with_reducible refine (spec_l5Pick.calls k2 _ _ l0 _ _ x10_2 x13_2 a3 t328 _ ?side1 ?side2 ?side3 ?side4 A14.out).mono ?_); (case side1 => first | exact bC HR0.out HB.out | exact Kd.C_below HR0.out HB.out); (case side2 => exact HC0.out); (case side3 => repeat (first | exact (Kd.R_reads' HO_10.out).2.2 | (with_reducible refine Kd.C_alloc ?_ _) | (with_reducible refine Kd.C_drewN ?_ _) | (with_reducible refine Kd.C_drew ?_))); (case side4 => exact (Kd.R_reads' HO_10.out).2.1); rintro e w' ⟨rfl, ⟨nd, rfl⟩⟩; refine ⟨_, rfl, ?_⟩; (try (rw [drewN_self wr]; generalize hq_ : World.drewN wr _ = wr; have n0_ : Aside0 (Kd.R (Kd.int .i64) 3 wr w.heap.size (fun _ => True) (.slice Ao12 x10_2.length co12) x10_2) := ⟨by rw [← hq_]; exact (bR HO_10.out)⟩; have n1_ : Aside0 (Kd.R k92 92 wr w.heap.size (fun _ => True) u9 x9_2) := ⟨by rw [← hq_]; exact (bR HO_9.out)⟩; have n2_ : Aside0 (Below w.heap.size w wr) := ⟨by rw [← hq_]; exact (bw HB.out)⟩; (try replace hx327_0 := cell_at hq_ hx327_0); (try replace hx25_0 := cell_at hq_ hx25_0); (try replace hf25_0 := frz_at hq_ hf25_0); (try replace hx329_0 := cell_at hq_ hx329_0); (try replace hx329_1 := cell_at hq_ hx329_1); (try replace hx329_2 := cell_at hq_ hx329_2); (try replace hx34_0 := cell_at hq_ hx34_0); (try replace hf34_0 := frz_at hq_ hf34_0); (try replace hx42_0 := cell_at hq_ hx42_0); (try replace hf42_0 := frz_at hq_ hf42_0); (try replace hx50_0 := cell_at hq_ hx50_0); (try replace hf50_0 := frz_at hq_ hf50_0); (try replace hx347_0 := cell_at hq_ hx347_0); clear HO_10 HO_9 HB hq_; have HO_10 := n0_; have HO_9 := n1_; have HB := n2_; clear n0_ n1_ n2_)); obtain ⟨Ao51, co51, eo51⟩ := Kd.R_slice HO_9.out; subst eo51) | ((with_reducible refine gate_builtin (b := .append) (xs := #[.tmp 72, .tmp 78]) rfl ?_); at_builtin; refine Kd.R_append k92 (w0 := w) w.heap.size rfl (.tmp 72) (.tmp 78) 89 92 (.agg #[(.int .i64 0), (.int .i64 0), (.int .i64 0)]) 24 rfl Try.underlying89 info92 rfl (by decide) (by omega) (.slice Ao51 x9_2.length co51) x9_2 (⟨t328, x13_2, wrap64 (x13_2 + 1)⟩ : S92) [.int .i64 t328, .int .i64 x13_2, .int .i64 (wrap64 (x13_2 + 1))] (fun _ => True) (fun _ => False) rfl rfl ?aP (fun _ hk => hk.elim) ?aF ?aO ?aB ?aS ?aL ?_; (case aP => exact k92_mkM _ _ _ (⟨t328, x13_2, wrap64 (x13_2 + 1)⟩ : S92)); (case aB => exact (bw HB.out)); (case aF => exact (fun _ _ => trivial)); (case aO => exact (bR HO_9.out)); (case aS => exact (below_size (bw HB.out))); (case aL => have := LMc47.out; omega); intro v345 w52 ho hb hg hat; rw [← Ny344.out] at ho; have n0_ := Aside0.mk (Kd.R_over' (bR HO_10.out) (Kd.R_typed (bR HO_9.out)) (by decide) hg); have n1_ := Aside0.mk (hb); have n2_ := Aside0.mk (ho); clear HO_9; replace HO_10 := n0_; replace HB := n1_; have HO346 := n2_; clear n0_ n1_ n2_; clear ho hb hg hat; have p347 : 0 ≤ (t328 : Int) := of_decide_eq_true (by first | (with_reducible assumption) | assumption); have q347 : t328 < (x10_2.length : Int) := of_decide_eq_true (by first | (with_reducible assumption) | assumption); obtain ⟨ad347, e347, hx347_0⟩ := Kd.at_int (Kd.R_reads' HO_10.out).2.2 t328 p347 q347; cases e347; replace p347 := eq_true p347; replace q347 := eq_true q347; have p50 : 0 ≤ (t328 : Int) := of_decide_eq_true (by first | (with_reducible assumption) | assumption); have q50 : (t328 : Int) < ((x10_2.length : Int) : Int) := of_decide_eq_true (by first | (with_reducible assumption) | assumption); obtain ⟨go50, co50, eo50, gb50, gl50, cl50, HG50⟩ := Kd.R_form HO_10.out (by omega); (first | cases eo50 | (injection eo50 with ea_ en_ ec_; (first | subst ea_ | (injection ea_ with ea_; subst ea_)); subst ec_; clear en_)); have GB50 := Aside0.mk gb50; have GG50 := Aside0.mk HG50; clear gb50 gl50 HG50; (first | simp only [add_plain] at hx347_0 | skip); obtain ⟨hx50_0, hf50_0⟩ := Kd.R_celln 0 HO_10.out (t328 : Int) p50 q50; replace p50 := eq_true p50; replace q50 := eq_true q50; obtain ⟨hy53_, hz53_⟩ := Kd.R_celln 0 HO_10.out (t328 : Int) (of_decide_eq_true (by first | (with_reducible assumption) | assumption)) (of_decide_eq_true (by first | (with_reducible assumption) | assumption)); have HP53 := Kd.R_putg HO_10.out (t328 : Int) (wrap64 ((rd x10_2 t328) - 1))) | ((with_reducible refine gate_store (t := 3) (p := 87) rfl ?_); refine store_event (t := 3) (p := 87) (v := ?vo_w54) (w1 := (w52.setCell ⟨go50, (t328 : Int).toNat, none⟩ (.int .i64 (wrap64 ((rd x10_2 t328) - 1))))) ?hg ?ho ?hn ?hr ?_; (case ho => rfl); (case hg => rfl); (case hn => rfl); (case hr => first | (go_simp; done) | (go_simp; rfl)); intro w54 hw; have hg : w52.grownBy w54 (some go50) := (by rw [hw]; exact HP53.2); have hp_ : Kd.R (Kd.int .i64) 3 w54 w.heap.size (fun _ => True) (.slice (some ⟨go50, 0, none⟩) x10_2.length co12) y348 := (by rw [hw, Ny348.out]; exact HP53.1); clear HP53; have n0_ := Aside0.mk (hp_); have n1_ := Aside0.mk (Kd.R_over' (v := (.slice (some ⟨go50, 0, none⟩) x10_2.length co12)) (bR HO346.out) (Kd.R_typed HO_10.out) (by decide) hg); have n2_ := Aside0.mk ((by rw [hw]; exact below_set (HB.out) GB50.out : Below w.heap.size w w54)); replace HO_10 := n0_; replace HO346 := n1_; replace HB := n2_; clear n0_ n1_ n2_; clear hg hw hp_))
      (try simp only [← hl10_2])
      go_roundg k2
      case measure => have := HK1.out; have := HK2.out; omega
      case rel => exact ⟨(y344), (y348), (wrap64 (x11_2 - 1)), (wrap64 (x13_2 + 1)), (by first | rfl | (simp; done) | (simp [*]; done)), (by first | rfl | (simp; done) | (simp [*]; done)), H', ⟨by have := HK1.out; have := HK2.out; omega⟩, ⟨by (try simp only [hl10_2]); (with_reducible repeat (first | apply Kd.R_alloc | apply Kd.R_drewN | apply Kd.R_drew)); exact HO346.out⟩, ⟨by (try simp only [hl10_2]); (with_reducible repeat (first | apply Kd.R_alloc | apply Kd.R_drewN | apply Kd.R_drew)); exact HO_10.out⟩, ⟨bw HB.out⟩⟩
     rw [if_pos c16] at H
     have c16b0 : decide (0 ≤ (wrap64 ((x9_2.length : Int) - 1))) = true := decide_eq_true c16
     clear c16
     obtain ⟨ji17, hji17⟩ : ∃ j_ : Int, (wrap64 ((x9_2.length : Int) - 1)) = j_ := ⟨_, rfl⟩
     replace H : (if 0 ≤ (ji17) then (if (ji17) < (x9_2.length : Int) then (if ((rd_T92 x9_2 (ji17)).f0) = t328 then (if ((rd_T92 x9_2 (ji17)).f2) = x13_2 then (if 0 ≤ t328 then (if t328 < (x10_2.length : Int) then (spec_l5Choose.l1 k2 l0 a3 (x9_2.set ((ji17) : Int).toNat (⟨(rd_T92 x9_2 (ji17)).f0, (rd_T92 x9_2 (ji17)).f1, wrap64 (x13_2 + 1)⟩ : S92)) (x10_2.set (t328 : Int).toNat (wrap64 ((rd x10_2 t328) - 1))) (wrap64 (x11_2 - 1)) (wrap64 (x13_2 + 1))) else (none)) else (none)) else (if x9_2.length < 5864062014805 then (if 0 ≤ t328 then (if t328 < (x10_2.length : Int) then (spec_l5Choose.l1 k2 l0 a3 (x9_2 ++ [(⟨t328, x13_2, wrap64 (x13_2 + 1)⟩ : S92)]) (x10_2.set (t328 : Int).toNat (wrap64 ((rd x10_2 t328) - 1))) (wrap64 (x11_2 - 1)) (wrap64 (x13_2 + 1))) else (none)) else (none)) else (none))) else (if x9_2.length < 5864062014805 then (if 0 ≤ t328 then (if t328 < (x10_2.length : Int) then (spec_l5Choose.l1 k2 l0 a3 (x9_2 ++ [(⟨t328, x13_2, wrap64 (x13_2 + 1)⟩ : S92)]) (x10_2.set (t328 : Int).toNat (wrap64 ((rd x10_2 t328) - 1))) (wrap64 (x11_2 - 1)) (wrap64 (x13_2 + 1))) else (none)) else (none)) else (none))) else (none)) else (none)) = some r := by first | (rw [hji17] at H; exact H) | (simp only [hji17] at H ⊢; exact H)
     (try rw [hji17] at c16b0)
     (try rw [hji17] at A14)
     have hji17w : (IntKind.i64.wrap ((x9_2.length : Int) - 1)) = ji17 := (i64_w _).trans hji17
     by_cases c18 : 0 ≤ (ji17)
     rotate_left
     ·rw [if_neg c18] at H
      exact absurd H (by simp)
     rw [if_pos c18] at H
     have c18b0 : decide (0 ≤ (ji17)) = true := decide_eq_true c18
     clear c18
     by_cases c19 : (ji17) < (x9_2.length : Int)
     rotate_left
     ·rw [if_neg c19] at H
      exact absurd H (by simp)
     rw [if_pos c19] at H
     have c19b0 : decide ((ji17) < (x9_2.length : Int)) = true := decide_eq_true c19
     clear c19
     by_cases c20 : ((rd_T92 x9_2 (ji17)).f0) = t328
     rotate_left
     ·rw [if_neg c20] at H
      have c20b0 : (((rd_T92 x9_2 (ji17)).f0) == t328) = false := beq_eq_false_iff_ne.mpr c20
      have c20b1 : (((rd_T92 x9_2 (ji17)).f0) != t328) = true := bne_iff_ne.mpr c20
      by_cases c39 : x9_2.length < 5864062014805
      rotate_left
      ·rw [if_neg c39] at H
       exact absurd H (by simp)
      rw [if_pos c39] at H
      have LMc39 := Aside0.mk c39
      clear c39
      obtain ⟨y339, hy339⟩ : ∃ y_ : List (S92), y_ = (x9_2 ++ [(⟨t328, x13_2, wrap64 (x13_2 + 1)⟩ : S92)]) := ⟨_, rfl⟩
      replace H : (if 0 ≤ t328 then (if t328 < (x10_2.length : Int) then (spec_l5Choose.l1 k2 l0 a3 y339 (x10_2.set (t328 : Int).toNat (wrap64 ((rd x10_2 t328) - 1))) (wrap64 (x11_2 - 1)) (wrap64 (x13_2 + 1))) else (none)) else (none)) = some r := by first | (rw [hy339]; with_reducible exact H) | (have H2_ := (Option.bind_some _ _).symm.trans H; rw [hy339]; with_reducible exact H2_) | (have H2_ := (Option.bind_some _ _).symm.trans H; with_reducible exact H2_) | with_reducible exact H | (rw [hy339]; exact H) | exact H
      have Ny339 := Aside0.mk hy339
      clear hy339
      by_cases c40 : 0 ≤ t328
      rotate_left
      ·rw [if_neg c40] at H
       exact absurd H (by simp)
      rw [if_pos c40] at H
      have c40b0 : decide (0 ≤ t328) = true := decide_eq_true c40
      clear c40
      by_cases c41 : t328 < (x10_2.length : Int)
      rotate_left
      ·rw [if_neg c41] at H
       exact absurd H (by simp)
      rw [if_pos c41] at H
      have c41b0 : decide (t328 < (x10_2.length : Int)) = true := decide_eq_true c41
      clear c41
      obtain ⟨y343, hy343⟩ : ∃ y_ : List Int, y_ = (x10_2.set (t328 : Int).toNat (wrap64 ((rd x10_2 t328) - 1))) := ⟨_, rfl⟩
      replace H : (spec_l5Choose.l1 k2 l0 a3 y339 y343 (wrap64 (x11_2 - 1)) (wrap64 (x13_2 + 1))) = some r := by first | (rw [hy343]; with_reducible exact H) | (have H2_ := (Option.bind_some _ _).symm.trans H; rw [hy343]; with_reducible exact H2_) | (have H2_ := (Option.bind_some _ _).symm.trans H; with_reducible exact H2_) | with_reducible exact H | (rw [hy343]; exact H) | exact H
      have Ny343 := Aside0.mk hy343
      clear hy343
      have H' := Aside0.mk H
      clear H
      go_wp2_with (first | ((with_reducible refine gate_callee (f := 92) rfl ?_); refine goesL_ (some 40) rfl rfl Try.func92 (by kernel_rfl) rfl #[.slice A0 l0.length c0, .slice Ao12 x10_2.length co12, .int .i64 x13_2, .int .i64 a3] rfl (by (try simp only [mA_]); first | done | rfl | (simp only [List.length_drop, List.length_take]; rfl)) ?_; (with_reducible refine (spec_l5Pick.calls k2 _ _ l0 _ _ x10_2 x13_2 a3 t328 _ ?side1 ?side2 ?side3 ?side4 A14.out).mono ?_); (case side1 => first | exact bC HR0.out HB.out | exact Kd.C_below HR0.out HB.out); (case side2 => exact HC0.out); (case side3 => repeat (first | exact (Kd.R_reads' HO_10.out).2.2 | (with_reducible refine Kd.C_alloc ?_ _) | (with_reducible refine Kd.C_drewN ?_ _) | (with_reducible refine Kd.C_drew ?_))); (case side4 => exact (Kd.R_reads' HO_10.out).2.1); rintro e w' ⟨rfl, ⟨nd, rfl⟩⟩; refine ⟨_, rfl, ?_⟩; (try (rw [drewN_self wr]; generalize hq_ : World.drewN wr _ = wr; have n0_ : Aside0 (Kd.R (Kd.int .i64) 3 wr w.heap.size (fun _ => True) (.slice Ao12 x10_2.length co12) x10_2) := ⟨by rw [← hq_]; exact (bR HO_10.out)⟩; have n1_ : Aside0 (Kd.R k92 92 wr w.heap.size (fun _ => True) u9 x9_2) := ⟨by rw [← hq_]; exact (bR HO_9.out)⟩; have n2_ : Aside0 (Below w.heap.size w wr) := ⟨by rw [← hq_]; exact (bw HB.out)⟩; (try replace hx327_0 := cell_at hq_ hx327_0); (try replace hx25_0 := cell_at hq_ hx25_0); (try replace hf25_0 := frz_at hq_ hf25_0); (try replace hx329_0 := cell_at hq_ hx329_0); (try replace hx329_1 := cell_at hq_ hx329_1); (try replace hx329_2 := cell_at hq_ hx329_2); (try replace hx34_0 := cell_at hq_ hx34_0); (try replace hf34_0 := frz_at hq_ hf34_0); (try replace hx42_0 := cell_at hq_ hx42_0); (try replace hf42_0 := frz_at hq_ hf42_0); clear HO_10 HO_9 HB hq_; have HO_10 := n0_; have HO_9 := n1_; have HB := n2_; clear n0_ n1_ n2_)); obtain ⟨Ao43, co43, eo43⟩ := Kd.R_slice HO_9.out; subst eo43; have p329 : 0 ≤ ((ji17) : Int) := of_decide_eq_true (by first | (with_reducible assumption) | assumption); have q329 : (ji17) < (x9_2.length : Int) := of_decide_eq_true (by first | (with_reducible assumption) | assumption); obtain ⟨ad329, e329, hx329_0, hx329_1, hx329_2⟩ := at_T92 (Kd.R_reads' HO_9.out).2.2 (ji17) p329 q329; cases e329; replace p329 := eq_true p329; replace q329 := eq_true q329) | ((with_reducible refine gate_builtin (b := .append) (xs := #[.tmp 72, .tmp 78]) rfl ?_); at_builtin; refine Kd.R_append k92 (w0 := w) w.heap.size rfl (.tmp 72) (.tmp 78) 89 92 (.agg #[(.int .i64 0), (.int .i64 0), (.int .i64 0)]) 24 rfl Try.underlying89 info92 rfl (by decide) (by omega) (.slice (some ad329) x9_2.length co43) x9_2 (⟨t328, x13_2, wrap64 (x13_2 + 1)⟩ : S92) [.int .i64 t328, .int .i64 x13_2, .int .i64 (wrap64 (x13_2 + 1))] (fun _ => True) (fun _ => False) rfl rfl ?aP (fun _ hk => hk.elim) ?aF ?aO ?aB ?aS ?aL ?_; (case aP => exact k92_mkM _ _ _ (⟨t328, x13_2, wrap64 (x13_2 + 1)⟩ : S92)); (case aB => exact (bw HB.out)); (case aF => exact (fun _ _ => trivial)); (case aO => exact (bR HO_9.out)); (case aS => exact (below_size (bw HB.out))); (case aL => have := LMc39.out; omega); intro v340 w44 ho hb hg hat; rw [← Ny339.out] at ho; have n0_ := Aside0.mk (Kd.R_over' (bR HO_10.out) (Kd.R_typed (bR HO_9.out)) (by decide) hg); have n1_ := Aside0.mk (hb); have n2_ := Aside0.mk (ho); clear HO_9; replace HO_10 := n0_; replace HB := n1_; have HO341 := n2_; clear n0_ n1_ n2_; clear ho hb hg hat; have p342 : 0 ≤ (t328 : Int) := of_decide_eq_true (by first | (with_reducible assumption) | assumption); have q342 : t328 < (x10_2.length : Int) := of_decide_eq_true (by first | (with_reducible assumption) | assumption); obtain ⟨ad342, e342, hx342_0⟩ := Kd.at_int (Kd.R_reads' HO_10.out).2.2 t328 p342 q342; cases e342; replace p342 := eq_true p342; replace q342 := eq_true q342; have p42 : 0 ≤ (t328 : Int) := of_decide_eq_true (by first | (with_reducible assumption) | assumption); have q42 : (t328 : Int) < ((x10_2.length : Int) : Int) := of_decide_eq_true (by first | (with_reducible assumption) | assumption); obtain ⟨go42, co42, eo42, gb42, gl42, cl42, HG42⟩ := Kd.R_form HO_10.out (by omega); (first | cases eo42 | (injection eo42 with ea_ en_ ec_; (first | subst ea_ | (injection ea_ with ea_; subst ea_)); subst ec_; clear en_)); have GB42 := Aside0.mk gb42; have GG42 := Aside0.mk HG42; clear gb42 gl42 HG42; (first | simp only [add_plain] at hx342_0 | skip); obtain ⟨hx42_0, hf42_0⟩ := Kd.R_celln 0 HO_10.out (t328 : Int) p42 q42; replace p42 := eq_true p42; replace q42 := eq_true q42; obtain ⟨hy45_, hz45_⟩ := Kd.R_celln 0 HO_10.out (t328 : Int) (of_decide_eq_true (by first | (with_reducible assumption) | assumption)) (of_decide_eq_true (by first | (with_reducible assumption) | assumption)); have HP45 := Kd.R_putg HO_10.out (t328 : Int) (wrap64 ((rd x10_2 t328) - 1))) | ((with_reducible refine gate_store (t := 3) (p := 87) rfl ?_); refine store_event (t := 3) (p := 87) (v := ?vo_w46) (w1 := (w44.setCell ⟨go42, (t328 : Int).toNat, none⟩ (.int .i64 (wrap64 ((rd x10_2 t328) - 1))))) ?hg ?ho ?hn ?hr ?_; (case ho => rfl); (case hg => rfl); (case hn => rfl); (case hr => first | (go_simp; done) | (go_simp; rfl)); intro w46 hw; have hg : w44.grownBy w46 (some go42) := (by rw [hw]; exact HP45.2); have hp_ : Kd.R (Kd.int .i64) 3 w46 w.heap.size (fun _ => True) (.slice (some ⟨go42, 0, none⟩) x10_2.length co12) y343 := (by rw [hw, Ny343.out]; exact HP45.1); clear HP45; have n0_ := Aside0.mk (hp_); have n1_ := Aside0.mk (Kd.R_over' (v := (.slice (some ⟨go42, 0, none⟩) x10_2.length co12)) (bR HO341.out) (Kd.R_typed HO_10.out) (by decide) hg); have n2_ := Aside0.mk ((by rw [hw]; exact below_set (HB.out) GB42.out : Below w.heap.size w w46)); replace HO_10 := n0_; replace HO341 := n1_; replace HB := n2_; clear n0_ n1_ n2_; clear hg hw hp_))
      (try simp only [← hl10_2])
      go_roundg k2
      case measure => have := HK1.out; have := HK2.out; omega
      case rel => exact ⟨(y339), (y343), (wrap64 (x11_2 - 1)), (wrap64 (x13_2 + 1)), (by first | rfl | (simp; done) | (simp [*]; done)), (by first | rfl | (simp; done) | (simp [*]; done)), H', ⟨by have := HK1.out; have := HK2.out; omega⟩, ⟨by (try simp only [hl10_2]); (with_reducible repeat (first | apply Kd.R_alloc | apply Kd.R_drewN | apply Kd.R_drew)); exact HO341.out⟩, ⟨by (try simp only [hl10_2]); (with_reducible repeat (first | apply Kd.R_alloc | apply Kd.R_drewN | apply Kd.R_drew)); exact HO_10.out⟩, ⟨bw HB.out⟩⟩
     rw [if_pos c20] at H
     have c20b0 : (((rd_T92 x9_2 (ji17)).f0) == t328) = true := beq_iff_eq.mpr c20
     have c20b1 : (((rd_T92 x9_2 (ji17)).f0) != t328) = false := bne_eq_false_iff_eq.mpr c20
     clear c20
     by_cases c21 : ((rd_T92 x9_2 (ji17)).f2) = x13_2
     rotate_left
     ·rw [if_neg c21] at H
      have c21b0 : (((rd_T92 x9_2 (ji17)).f2) == x13_2) = false := beq_eq_false_iff_ne.mpr c21
      have c21b1 : (((rd_T92 x9_2 (ji17)).f2) != x13_2) = true := bne_iff_ne.mpr c21
      by_cases c31 : x9_2.length < 5864062014805
      rotate_left
      ·rw [if_neg c31] at H
       exact absurd H (by simp)
      rw [if_pos c31] at H
      have LMc31 := Aside0.mk c31
      clear c31
      obtain ⟨y334, hy334⟩ : ∃ y_ : List (S92), y_ = (x9_2 ++ [(⟨t328, x13_2, wrap64 (x13_2 + 1)⟩ : S92)]) := ⟨_, rfl⟩
      replace H : (if 0 ≤ t328 then (if t328 < (x10_2.length : Int) then (spec_l5Choose.l1 k2 l0 a3 y334 (x10_2.set (t328 : Int).toNat (wrap64 ((rd x10_2 t328) - 1))) (wrap64 (x11_2 - 1)) (wrap64 (x13_2 + 1))) else (none)) else (none)) = some r := by first | (rw [hy334]; with_reducible exact H) | (have H2_ := (Option.bind_some _ _).symm.trans H; rw [hy334]; with_reducible exact H2_) | (have H2_ := (Option.bind_some _ _).symm.trans H; with_reducible exact H2_) | with_reducible exact H | (rw [hy334]; exact H) | exact H
      have Ny334 := Aside0.mk hy334
      clear hy334
      by_cases c32 : 0 ≤ t328
      rotate_left
      ·rw [if_neg c32] at H
       exact absurd H (by simp)
      rw [if_pos c32] at H
      have c32b0 : decide (0 ≤ t328) = true := decide_eq_true c32
      clear c32
      by_cases c33 : t328 < (x10_2.length : Int)
      rotate_left
      ·rw [if_neg c33] at H
       exact absurd H (by simp)
      rw [if_pos c33] at H
      have c33b0 : decide (t328 < (x10_2.length : Int)) = true := decide_eq_true c33
      clear c33
      obtain ⟨y338, hy338⟩ : ∃ y_ : List Int, y_ = (x10_2.set (t328 : Int).toNat (wrap64 ((rd x10_2 t328) - 1))) := ⟨_, rfl⟩
      replace H : (spec_l5Choose.l1 k2 l0 a3 y334 y338 (wrap64 (x11_2 - 1)) (wrap64 (x13_2 + 1))) = some r := by first | (rw [hy338]; with_reducible exact H) | (have H2_ := (Option.bind_some _ _).symm.trans H; rw [hy338]; with_reducible exact H2_) | (have H2_ := (Option.bind_some _ _).symm.trans H; with_reducible exact H2_) | with_reducible exact H | (rw [hy338]; exact H) | exact H
      have Ny338 := Aside0.mk hy338
      clear hy338
      have H' := Aside0.mk H
      clear H
      go_wp2_with (first | ((with_reducible refine gate_callee (f := 92) rfl ?_); refine goesL_ (some 40) rfl rfl Try.func92 (by kernel_rfl) rfl #[.slice A0 l0.length c0, .slice Ao12 x10_2.length co12, .int .i64 x13_2, .int .i64 a3] rfl (by (try simp only [mA_]); first | done | rfl | (simp only [List.length_drop, List.length_take]; rfl)) ?_; (with_reducible refine (spec_l5Pick.calls k2 _ _ l0 _ _ x10_2 x13_2 a3 t328 _ ?side1 ?side2 ?side3 ?side4 A14.out).mono ?_); (case side1 => first | exact bC HR0.out HB.out | exact Kd.C_below HR0.out HB.out); (case side2 => exact HC0.out); (case side3 => repeat (first | exact (Kd.R_reads' HO_10.out).2.2 | (with_reducible refine Kd.C_alloc ?_ _) | (with_reducible refine Kd.C_drewN ?_ _) | (with_reducible refine Kd.C_drew ?_))); (case side4 => exact (Kd.R_reads' HO_10.out).2.1); rintro e w' ⟨rfl, ⟨nd, rfl⟩⟩; refine ⟨_, rfl, ?_⟩; (try (rw [drewN_self wr]; generalize hq_ : World.drewN wr _ = wr; have n0_ : Aside0 (Kd.R (Kd.int .i64) 3 wr w.heap.size (fun _ => True) (.slice Ao12 x10_2.length co12) x10_2) := ⟨by rw [← hq_]; exact (bR HO_10.out)⟩; have n1_ : Aside0 (Kd.R k92 92 wr w.heap.size (fun _ => True) u9 x9_2) := ⟨by rw [← hq_]; exact (bR HO_9.out)⟩; have n2_ : Aside0 (Below w.heap.size w wr) := ⟨by rw [← hq_]; exact (bw HB.out)⟩; (try replace hx327_0 := cell_at hq_ hx327_0); (try replace hx25_0 := cell_at hq_ hx25_0); (try replace hf25_0 := frz_at hq_ hf25_0); (try replace hx329_0 := cell_at hq_ hx329_0); (try replace hx329_1 := cell_at hq_ hx329_1); (try replace hx329_2 := cell_at hq_ hx329_2); (try replace hx34_0 := cell_at hq_ hx34_0); (try replace hf34_0 := frz_at hq_ hf34_0); clear HO_10 HO_9 HB hq_; have HO_10 := n0_; have HO_9 := n1_; have HB := n2_; clear n0_ n1_ n2_)); obtain ⟨Ao35, co35, eo35⟩ := Kd.R_slice HO_9.out; subst eo35; have p329 : 0 ≤ ((ji17) : Int) := of_decide_eq_true (by first | (with_reducible assumption) | assumption); have q329 : (ji17) < (x9_2.length : Int) := of_decide_eq_true (by first | (with_reducible assumption) | assumption); obtain ⟨ad329, e329, hx329_0, hx329_1, hx329_2⟩ := at_T92 (Kd.R_reads' HO_9.out).2.2 (ji17) p329 q329; cases e329; replace p329 := eq_true p329; replace q329 := eq_true q329; have p330 : 0 ≤ ((ji17) : Int) := of_decide_eq_true (by first | (with_reducible assumption) | assumption); have q330 : (ji17) < (x9_2.length : Int) := of_decide_eq_true (by first | (with_reducible assumption) | assumption); obtain ⟨ad330, e330, hx330_0, hx330_1, hx330_2⟩ := at_T92 (Kd.R_reads' HO_9.out).2.2 (ji17) p330 q330; obtain rfl : ad329 = ad330 := (by injection e330); replace p330 := eq_true p330; replace q330 := eq_true q330) | ((with_reducible refine gate_builtin (b := .append) (xs := #[.tmp 72, .tmp 78]) rfl ?_); at_builtin; refine Kd.R_append k92 (w0 := w) w.heap.size rfl (.tmp 72) (.tmp 78) 89 92 (.agg #[(.int .i64 0), (.int .i64 0), (.int .i64 0)]) 24 rfl Try.underlying89 info92 rfl (by decide) (by omega) (.slice (some ad329) x9_2.length co35) x9_2 (⟨t328, x13_2, wrap64 (x13_2 + 1)⟩ : S92) [.int .i64 t328, .int .i64 x13_2, .int .i64 (wrap64 (x13_2 + 1))] (fun _ => True) (fun _ => False) rfl rfl ?aP (fun _ hk => hk.elim) ?aF ?aO ?aB ?aS ?aL ?_; (case aP => exact k92_mkM _ _ _ (⟨t328, x13_2, wrap64 (x13_2 + 1)⟩ : S92)); (case aB => exact (bw HB.out)); (case aF => exact (fun _ _ => trivial)); (case aO => exact (bR HO_9.out)); (case aS => exact (below_size (bw HB.out))); (case aL => have := LMc31.out; omega); intro v335 w36 ho hb hg hat; rw [← Ny334.out] at ho; have n0_ := Aside0.mk (Kd.R_over' (bR HO_10.out) (Kd.R_typed (bR HO_9.out)) (by decide) hg); have n1_ := Aside0.mk (hb); have n2_ := Aside0.mk (ho); clear HO_9; replace HO_10 := n0_; replace HB := n1_; have HO336 := n2_; clear n0_ n1_ n2_; clear ho hb hg hat; have p337 : 0 ≤ (t328 : Int) := of_decide_eq_true (by first | (with_reducible assumption) | assumption); have q337 : t328 < (x10_2.length : Int) := of_decide_eq_true (by first | (with_reducible assumption) | assumption); obtain ⟨ad337, e337, hx337_0⟩ := Kd.at_int (Kd.R_reads' HO_10.out).2.2 t328 p337 q337; cases e337; replace p337 := eq_true p337; replace q337 := eq_true q337; have p34 : 0 ≤ (t328 : Int) := of_decide_eq_true (by first | (with_reducible assumption) | assumption); have q34 : (t328 : Int) < ((x10_2.length : Int) : Int) := of_decide_eq_true (by first | (with_reducible assumption) | assumption); obtain ⟨go34, co34, eo34, gb34, gl34, cl34, HG34⟩ := Kd.R_form HO_10.out (by omega); (first | cases eo34 | (injection eo34 with ea_ en_ ec_; (first | subst ea_ | (injection ea_ with ea_; subst ea_)); subst ec_; clear en_)); have GB34 := Aside0.mk gb34; have GG34 := Aside0.mk HG34; clear gb34 gl34 HG34; (first | simp only [add_plain] at hx337_0 | skip); obtain ⟨hx34_0, hf34_0⟩ := Kd.R_celln 0 HO_10.out (t328 : Int) p34 q34; replace p34 := eq_true p34; replace q34 := eq_true q34; obtain ⟨hy37_, hz37_⟩ := Kd.R_celln 0 HO_10.out (t328 : Int) (of_decide_eq_true (by first | (with_reducible assumption) | assumption)) (of_decide_eq_true (by first | (with_reducible assumption) | assumption)); have HP37 := Kd.R_putg HO_10.out (t328 : Int) (wrap64 ((rd x10_2 t328) - 1))) | ((with_reducible refine gate_store (t := 3) (p := 87) rfl ?_); refine store_event (t := 3) (p := 87) (v := ?vo_w38) (w1 := (w36.setCell ⟨go34, (t328 : Int).toNat, none⟩ (.int .i64 (wrap64 ((rd x10_2 t328) - 1))))) ?hg ?ho ?hn ?hr ?_; (case ho => rfl); (case hg => rfl); (case hn => rfl); (case hr => first | (go_simp; done) | (go_simp; rfl)); intro w38 hw; have hg : w36.grownBy w38 (some go34) := (by rw [hw]; exact HP37.2); have hp_ : Kd.R (Kd.int .i64) 3 w38 w.heap.size (fun _ => True) (.slice (some ⟨go34, 0, none⟩) x10_2.length co12) y338 := (by rw [hw, Ny338.out]; exact HP37.1); clear HP37; have n0_ := Aside0.mk (hp_); have n1_ := Aside0.mk (Kd.R_over' (v := (.slice (some ⟨go34, 0, none⟩) x10_2.length co12)) (bR HO336.out) (Kd.R_typed HO_10.out) (by decide) hg); have n2_ := Aside0.mk ((by rw [hw]; exact below_set (HB.out) GB34.out : Below w.heap.size w w38)); replace HO_10 := n0_; replace HO336 := n1_; replace HB := n2_; clear n0_ n1_ n2_; clear hg hw hp_))
      (try simp only [← hl10_2])
      go_roundg k2
      case measure => have := HK1.out; have := HK2.out; omega
      case rel => exact ⟨(y334), (y338), (wrap64 (x11_2 - 1)), (wrap64 (x13_2 + 1)), (by first | rfl | (simp; done) | (simp [*]; done)), (by first | rfl | (simp; done) | (simp [*]; done)), H', ⟨by have := HK1.out; have := HK2.out; omega⟩, ⟨by (try simp only [hl10_2]); (with_reducible repeat (first | apply Kd.R_alloc | apply Kd.R_drewN | apply Kd.R_drew)); exact HO336.out⟩, ⟨by (try simp only [hl10_2]); (with_reducible repeat (first | apply Kd.R_alloc | apply Kd.R_drewN | apply Kd.R_drew)); exact HO_10.out⟩, ⟨bw HB.out⟩⟩
     rw [if_pos c21] at H
     have c21b0 : (((rd_T92 x9_2 (ji17)).f2) == x13_2) = true := beq_iff_eq.mpr c21
     have c21b1 : (((rd_T92 x9_2 (ji17)).f2) != x13_2) = false := bne_eq_false_iff_eq.mpr c21
     clear c21
     obtain ⟨y331, hy331⟩ : ∃ y_ : List (S92), y_ = (x9_2.set ((ji17) : Int).toNat (⟨(rd_T92 x9_2 (ji17)).f0, (rd_T92 x9_2 (ji17)).f1, wrap64 (x13_2 + 1)⟩ : S92)) := ⟨_, rfl⟩
     replace H : (if 0 ≤ t328 then (if t328 < (x10_2.length : Int) then (spec_l5Choose.l1 k2 l0 a3 y331 (x10_2.set (t328 : Int).toNat (wrap64 ((rd x10_2 t328) - 1))) (wrap64 (x11_2 - 1)) (wrap64 (x13_2 + 1))) else (none)) else (none)) = some r := by first | (rw [hy331]; with_reducible exact H) | (have H2_ := (Option.bind_some _ _).symm.trans H; rw [hy331]; with_reducible exact H2_) | (have H2_ := (Option.bind_some _ _).symm.trans H; with_reducible exact H2_) | with_reducible exact H | (rw [hy331]; exact H) | exact H
     have Ny331 := Aside0.mk hy331
     clear hy331
     by_cases c23 : 0 ≤ t328
     rotate_left
     ·rw [if_neg c23] at H
      exact absurd H (by simp)
     rw [if_pos c23] at H
     have c23b0 : decide (0 ≤ t328) = true := decide_eq_true c23
     clear c23
     by_cases c24 : t328 < (x10_2.length : Int)
     rotate_left
     ·rw [if_neg c24] at H
      exact absurd H (by simp)
     rw [if_pos c24] at H
     have c24b0 : decide (t328 < (x10_2.length : Int)) = true := decide_eq_true c24
     clear c24
     obtain ⟨y333, hy333⟩ : ∃ y_ : List Int, y_ = (x10_2.set (t328 : Int).toNat (wrap64 ((rd x10_2 t328) - 1))) := ⟨_, rfl⟩
     replace H : (spec_l5Choose.l1 k2 l0 a3 y331 y333 (wrap64 (x11_2 - 1)) (wrap64 (x13_2 + 1))) = some r := by first | (rw [hy333]; with_reducible exact H) | (have H2_ := (Option.bind_some _ _).symm.trans H; rw [hy333]; with_reducible exact H2_) | (have H2_ := (Option.bind_some _ _).symm.trans H; with_reducible exact H2_) | with_reducible exact H | (rw [hy333]; exact H) | exact H
     have Ny333 := Aside0.mk hy333
     clear hy333
     have H' := Aside0.mk H
     clear H
     go_wp2_with (first | ((with_reducible refine gate_callee (f := 92) rfl ?_); refine goesL_ (some 40) rfl rfl Try.func92 (by kernel_rfl) rfl #[.slice A0 l0.length c0, .slice Ao12 x10_2.length co12, .int .i64 x13_2, .int .i64 a3] rfl (by (try simp only [mA_]); first | done | rfl | (simp only [List.length_drop, List.length_take]; rfl)) ?_; (with_reducible refine (spec_l5Pick.calls k2 _ _ l0 _ _ x10_2 x13_2 a3 t328 _ ?side1 ?side2 ?side3 ?side4 A14.out).mono ?_); (case side1 => first | exact bC HR0.out HB.out | exact Kd.C_below HR0.out HB.out); (case side2 => exact HC0.out); (case side3 => repeat (first | exact (Kd.R_reads' HO_10.out).2.2 | (with_reducible refine Kd.C_alloc ?_ _) | (with_reducible refine Kd.C_drewN ?_ _) | (with_reducible refine Kd.C_drew ?_))); (case side4 => exact (Kd.R_reads' HO_10.out).2.1); rintro e w' ⟨rfl, ⟨nd, rfl⟩⟩; refine ⟨_, rfl, ?_⟩; (try (rw [drewN_self wr]; generalize hq_ : World.drewN wr _ = wr; have n0_ : Aside0 (Kd.R (Kd.int .i64) 3 wr w.heap.size (fun _ => True) (.slice Ao12 x10_2.length co12) x10_2) := ⟨by rw [← hq_]; exact (bR HO_10.out)⟩; have n1_ : Aside0 (Kd.R k92 92 wr w.heap.size (fun _ => True) u9 x9_2) := ⟨by rw [← hq_]; exact (bR HO_9.out)⟩; have n2_ : Aside0 (Below w.heap.size w wr) := ⟨by rw [← hq_]; exact (bw HB.out)⟩; (try replace hx327_0 := cell_at hq_ hx327_0); (try replace hx25_0 := cell_at hq_ hx25_0); (try replace hf25_0 := frz_at hq_ hf25_0); (try replace hx329_0 := cell_at hq_ hx329_0); (try replace hx329_1 := cell_at hq_ hx329_1); (try replace hx329_2 := cell_at hq_ hx329_2); clear HO_10 HO_9 HB hq_; have HO_10 := n0_; have HO_9 := n1_; have HB := n2_; clear n0_ n1_ n2_)); obtain ⟨Ao26, co26, eo26⟩ := Kd.R_slice HO_9.out; subst eo26; have p329 : 0 ≤ ((ji17) : Int) := of_decide_eq_true (by first | (with_reducible assumption) | assumption); have q329 : (ji17) < (x9_2.length : Int) := of_decide_eq_true (by first | (with_reducible assumption) | assumption); obtain ⟨ad329, e329, hx329_0, hx329_1, hx329_2⟩ := at_T92 (Kd.R_reads' HO_9.out).2.2 (ji17) p329 q329; cases e329; replace p329 := eq_true p329; replace q329 := eq_true q329; have p330 : 0 ≤ ((ji17) : Int) := of_decide_eq_true (by first | (with_reducible assumption) | assumption); have q330 : (ji17) < (x9_2.length : Int) := of_decide_eq_true (by first | (with_reducible assumption) | assumption); obtain ⟨ad330, e330, hx330_0, hx330_1, hx330_2⟩ := at_T92 (Kd.R_reads' HO_9.out).2.2 (ji17) p330 q330; obtain rfl : ad329 = ad330 := (by injection e330); replace p330 := eq_true p330; replace q330 := eq_true q330; have p22 : 0 ≤ ((ji17) : Int) := of_decide_eq_true (by first | (with_reducible assumption) | assumption); have q22 : ((ji17) : Int) < ((x9_2.length : Int) : Int) := of_decide_eq_true (by first | (with_reducible assumption) | assumption); obtain ⟨go22, co22, eo22, gb22, gl22, cl22, HG22⟩ := Kd.R_form HO_9.out (by omega); (first | cases eo22 | (injection eo22 with ea_ en_ ec_; (first | subst ea_ | (injection ea_ with ea_; subst ea_)); subst ec_; clear en_)); have GB22 := Aside0.mk gb22; have GG22 := Aside0.mk HG22; clear gb22 gl22 HG22; (first | simp only [add_plain] at hx329_0 | skip); (first | simp only [add_plain] at hx329_1 | skip); (first | simp only [add_plain] at hx329_2 | skip); (first | simp only [add_plain] at hx330_0 | skip); (first | simp only [add_plain] at hx330_1 | skip); (first | simp only [add_plain] at hx330_2 | skip); obtain ⟨ce22, hcl22, hM22, hcc22, hfr22⟩ := Kd.R_elem HO_9.out z92 ((ji17) : Int) p22 q22; obtain rfl := k92_openM hM22; have hx22_0 : wr.cell? ⟨go22, ((ji17) : Int).toNat * 3, none⟩ = some (.int .i64 ((rd_T92 x9_2 (ji17)).f0)) := hcc22 0 _ rfl; have hx22_1 : wr.cell? ⟨go22, ((ji17) : Int).toNat * 3 + 1, none⟩ = some (.int .i64 ((rd_T92 x9_2 (ji17)).f1)) := hcc22 1 _ rfl; have hx22_2 : wr.cell? ⟨go22, ((ji17) : Int).toNat * 3 + 2, none⟩ = some (.int .i64 ((rd_T92 x9_2 (ji17)).f2)) := hcc22 2 _ rfl; have hf22_0 : wr.frozen? ⟨go22, ((ji17) : Int).toNat * 3, none⟩ = false := hfr22 0; have hf22_1 : wr.frozen? ⟨go22, ((ji17) : Int).toNat * 3 + 1, none⟩ = false := hfr22 1; have hf22_2 : wr.frozen? ⟨go22, ((ji17) : Int).toNat * 3 + 2, none⟩ = false := hfr22 2; clear hcl22 hcc22 hfr22; (try clear hM22); replace p22 := eq_true p22; replace q22 := eq_true q22; have HX27 := Aside0.mk (show Kd.R k92 92 wr w.heap.size (fun _ => True) (.slice (some ⟨go22, 0, none⟩) x9_2.length co26) x9_2 from (bR HO_9.out)); obtain ⟨ce27, hcl27, hM27, hcc27, hfr27⟩ := Kd.R_elem HX27.out z92 ((ji17) : Int) (of_decide_eq_true (by first | (with_reducible assumption) | assumption)) (by have h_ : ((ji17) : Int) < ((x9_2.length : Int) : Int) := of_decide_eq_true (by first | (with_reducible assumption) | assumption); first | exact h_ | (have e_ := (Kd.R_reads' HO_9.out).1; omega) | simpa using h_); obtain rfl := k92_openM hM27; have HP27 := Kd.R_seg HX27.out ((ji17) : Int) (of_decide_eq_true (by first | (with_reducible assumption) | assumption)) (by have h_ : ((ji17) : Int) < ((x9_2.length : Int) : Int) := of_decide_eq_true (by first | (with_reducible assumption) | assumption); first | exact h_ | (have e_ := (Kd.R_reads' HO_9.out).1; omega) | simpa using h_) (seg := [.int .i64 (wrap64 (x13_2 + 1))]) (j := 2) hcl27 hcc27 (show 3 ≤ 3 from by decide) (x' := (⟨(rd_T92 x9_2 (ji17)).f0, (rd_T92 x9_2 (ji17)).f1, wrap64 (x13_2 + 1)⟩ : S92)) (k92_mkM _ _ _ (⟨(rd_T92 x9_2 (ji17)).f0, (rd_T92 x9_2 (ji17)).f1, wrap64 (x13_2 + 1)⟩ : S92) ) (fun _ hk => hk); have hx27_2 := hcc27 2 _ rfl; (try simp only [show (k92).sz = 3 from rfl, Nat.mul_one, Nat.add_zero] at hx27_2); have hf27_2 := hfr27 2; (try simp only [show (k92).sz = 3 from rfl, Nat.mul_one, Nat.add_zero] at hf27_2); clear hcl27 hcc27 hfr27; (try clear hM27)) | ((with_reducible refine gate_store (t := 3) (p := 71) rfl ?_); refine store_event (t := 3) (p := 71) (v := ?vo_w28) (w1 := (wr.setCell ⟨go22, ((ji17) : Int).toNat * 3 + 2, none⟩ (.int .i64 (wrap64 (x13_2 + 1))))) ?hg ?ho ?hn ?hr ?_; (case ho => rfl); (case hg => rfl); (case hn => rfl); (case hr => first | (go_simp; done) | (go_simp; rfl)); intro w28 hw; have hg : wr.grownBy w28 (some go22) := (by rw [hw]; exact HP27.2); have hp_ : Kd.R k92 92 w28 w.heap.size (fun _ => True) (.slice (some ⟨go22, 0, none⟩) x9_2.length co26) y331 := (by rw [hw, Ny331.out]; exact HP27.1); clear HP27; have n0_ := Aside0.mk (hp_); have n1_ := Aside0.mk (Kd.R_over' (v := (.slice (some ⟨go22, 0, none⟩) x9_2.length co26)) (bR HO_10.out) (Kd.R_typed HO_9.out) (by decide) hg); have n2_ := Aside0.mk ((by rw [hw]; exact below_set (HB.out) GB22.out : Below w.heap.size w w28)); replace HO_9 := n0_; replace HO_10 := n1_; replace HB := n2_; clear n0_ n1_ n2_; clear hg hw hp_; have p332 : 0 ≤ (t328 : Int) := of_decide_eq_true (by first | (with_reducible assumption) | assumption); have q332 : t328 < (x10_2.length : Int) := of_decide_eq_true (by first | (with_reducible assumption) | assumption); obtain ⟨ad332, e332, hx332_0⟩ := Kd.at_int (Kd.R_reads' HO_10.out).2.2 t328 p332 q332; cases e332; replace p332 := eq_true p332; replace q332 := eq_true q332; have p25 : 0 ≤ (t328 : Int) := of_decide_eq_true (by first | (with_reducible assumption) | assumption); have q25 : (t328 : Int) < ((x10_2.length : Int) : Int) := of_decide_eq_true (by first | (with_reducible assumption) | assumption); obtain ⟨go25, co25, eo25, gb25, gl25, cl25, HG25⟩ := Kd.R_form HO_10.out (by omega); (first | cases eo25 | (injection eo25 with ea_ en_ ec_; (first | subst ea_ | (injection ea_ with ea_; subst ea_)); subst ec_; clear en_)); have GB25 := Aside0.mk gb25; have GG25 := Aside0.mk HG25; clear gb25 gl25 HG25; (first | simp only [add_plain] at hx332_0 | skip); obtain ⟨hx25_0, hf25_0⟩ := Kd.R_celln 0 HO_10.out (t328 : Int) p25 q25; replace p25 := eq_true p25; replace q25 := eq_true q25; obtain ⟨hy29_, hz29_⟩ := Kd.R_celln 0 HO_10.out (t328 : Int) (of_decide_eq_true (by first | (with_reducible assumption) | assumption)) (of_decide_eq_true (by first | (with_reducible assumption) | assumption)); have HP29 := Kd.R_putg HO_10.out (t328 : Int) (wrap64 ((rd x10_2 t328) - 1))) | ((with_reducible refine gate_store (t := 3) (p := 87) rfl ?_); refine store_event (t := 3) (p := 87) (v := ?vo_w30) (w1 := (w28.setCell ⟨go25, (t328 : Int).toNat, none⟩ (.int .i64 (wrap64 ((rd x10_2 t328) - 1))))) ?hg ?ho ?hn ?hr ?_; (case ho => rfl); (case hg => rfl); (case hn => rfl); (case hr => first | (go_simp; done) | (go_simp; rfl)); intro w30 hw; have hg : w28.grownBy w30 (some go25) := (by rw [hw]; exact HP29.2); have hp_ : Kd.R (Kd.int .i64) 3 w30 w.heap.size (fun _ => True) (.slice (some ⟨go25, 0, none⟩) x10_2.length co12) y333 := (by rw [hw, Ny333.out]; exact HP29.1); clear HP29; have n0_ := Aside0.mk (Kd.R_over' (v := (.slice (some ⟨go25, 0, none⟩) x10_2.length co12)) (bR HO_9.out) (Kd.R_typed HO_10.out) (by decide) hg); have n1_ := Aside0.mk (hp_); have n2_ := Aside0.mk ((by rw [hw]; exact below_set (HB.out) GB25.out : Below w.heap.size w w30)); replace HO_9 := n0_; replace HO_10 := n1_; replace HB := n2_; clear n0_ n1_ n2_; clear hg hw hp_))
     (try simp only [← hl10_2])
     go_roundg k2
     case measure => have := HK1.out; have := HK2.out; omega
     case rel => exact ⟨(y331), (y333), (wrap64 (x11_2 - 1)), (wrap64 (x13_2 + 1)), (by first | rfl | (simp; done) | (simp [*]; done)), (by first | rfl | (simp; done) | (simp [*]; done)), H', ⟨by have := HK1.out; have := HK2.out; omega⟩, ⟨by (try simp only [hl10_2]); (with_reducible repeat (first | apply Kd.R_alloc | apply Kd.R_drewN | apply Kd.R_drew)); exact HO_9.out⟩, ⟨by (try simp only [hl10_2]); (with_reducible repeat (first | apply Kd.R_alloc | apply Kd.R_drewN | apply Kd.R_drew)); exact HO_10.out⟩, ⟨bw HB.out⟩⟩

/-! ### spec_l5Bound: function 36 -/
abbrev q36_0 : Array Bool := ⟨rl_ [14] false⟩
abbrev q36_10 : Array Bool := ⟨rl_ [6, 1, 4, 3] true⟩
abbrev q36_11 : Array Bool := ⟨rl_ [6, 1, 5, 2] true⟩
abbrev q36_12 : Array Bool := ⟨rl_ [12, 2] true⟩
abbrev q36_15 : Array Bool := ⟨rl_ [13] false⟩
abbrev q36_25 : Array Bool := ⟨rl_ [10, 3] true⟩
abbrev q36_26 : Array Bool := ⟨rl_ [11, 2] true⟩
abbrev q36_28 : Array Bool := ⟨rl_ [13] true⟩
mutual
def spec_l5Bound.l0 : Nat → List (S61) → List Int → Int → List Int → Int → List Int → Int → Option (Int)
 | 0, _, _, _, _, _, _, _ => none
 | k + 1, x0, x1, x2, x7, x8, x9, x10 => if x10 < (x1.length : Int) then (if 0 ≤ x10 then (if 0 ≤ (rd x1 x10) then (if (rd x1 x10) < (x0.length : Int) then ((spec_l1Most.f x8 ((rd_T61 x0 (rd x1 x10)).f2)).bind fun t357 => (if (rd x1 x10) < (x9.length : Int) then (if (rd x1 x10) < (x7.length : Int) then (spec_l5Bound.l0 k x0 x1 x2 (x7.set ((rd x1 x10) : Int).toNat 0) (wrap64 (t357 + ((rd_T61 x0 (rd x1 x10)).f0))) (x9.set ((rd x1 x10) : Int).toNat (wrap64 (t357 + ((rd_T61 x0 (rd x1 x10)).f0)))) (wrap64 (x10 + 1))) else (none)) else (none))) else (none)) else (none)) else (none)) else ((spec_l5Choose.f k x0 x7 x8 x2).bind fun t361 => (spec_l5Bound.l1 k x0 x2 x9 t361 0))
def spec_l5Bound.l1 : Nat → List (S61) → Int → List Int → List (S92) → Int → Option (Int)
 | 0, _, _, _, _, _ => none
 | k + 1, x0, x2, x9, x12, x13 => if x13 < (x12.length : Int) then (if 0 ≤ x13 then (if 0 ≤ ((rd_T92 x12 x13).f0) then (if ((rd_T92 x12 x13).f0) < (x9.length : Int) then (spec_l5Bound.l1 k x0 x2 (x9.set (((rd_T92 x12 x13).f0) : Int).toNat ((rd_T92 x12 x13).f2)) x12 (wrap64 (x13 + 1))) else (none)) else (none)) else (none)) else ((spec_l2Of.f k x0 x9 x2).bind fun t367 => (some t367))
end
def spec_l5Bound.f (k : Nat) (l0 : List (S61)) (l1 : List Int) (a2 : Int) : Option (Int) := (spec_l5Rests.f k l0).bind fun t349 => (if 0 ≤ (l0.length : Int) then (if ((l0.length : Int) : Int).toNat ≤ 35184372088832 then (spec_l5Bound.l0 k l0 l1 a2 t349 0 (List.replicate ((l0.length : Int) : Int).toNat 0) 0) else (none)) else (none))
theorem spec_l5Bound.mono_l : ∀ k, (∀ y0 y1 y2 y3 y4 y5 y6, LeO (spec_l5Bound.l0 k y0 y1 y2 y3 y4 y5 y6) (spec_l5Bound.l0 (k + 1) y0 y1 y2 y3 y4 y5 y6)) ∧ (∀ y0 y1 y2 y3 y4, LeO (spec_l5Bound.l1 k y0 y1 y2 y3 y4) (spec_l5Bound.l1 (k + 1) y0 y1 y2 y3 y4))
 | 0 => ⟨fun _ _ _ _ _ _ _ r h => by simp [spec_l5Bound.l0] at h, fun _ _ _ _ _ r h => by simp [spec_l5Bound.l1] at h⟩
 | k + 1 => by
  obtain ⟨ih0, ih1⟩ := spec_l5Bound.mono_l k
  refine ⟨?_, ?_⟩
  ·intro y0 y1 y2 y3 y4 y5 y6
   unfold spec_l5Bound.l0
   repeat' first
   | (with_reducible exact ih0 _ _ _ _ _ _ _)
   | (with_reducible exact ih1 _ _ _ _ _)
   | (with_reducible exact spec_l2Of.mono _ _ _ _)
   | (with_reducible exact spec_l5Choose.mono _ _ _ _ _)
   | (with_reducible exact spec_l5Rests.mono _ _)
   | (with_reducible exact LeO.refl _)
   | (with_reducible exact LeO.none _)
   | (with_reducible refine LeO.ite ?_ ?_)
   | (with_reducible refine LeO.bind ?_ (fun _ => ?_))
   | exact ih0 _ _ _ _ _ _ _
   | exact ih1 _ _ _ _ _
   | exact spec_l2Of.mono _ _ _ _
   | exact spec_l5Choose.mono _ _ _ _ _
   | exact spec_l5Rests.mono _ _
   | exact LeO.none _
   | refine LeO.ite ?_ ?_
   | refine LeO.bind ?_ (fun _ => ?_)
  ·intro y0 y1 y2 y3 y4
   unfold spec_l5Bound.l1
   repeat' first
   | (with_reducible exact ih0 _ _ _ _ _ _ _)
   | (with_reducible exact ih1 _ _ _ _ _)
   | (with_reducible exact spec_l2Of.mono _ _ _ _)
   | (with_reducible exact spec_l5Choose.mono _ _ _ _ _)
   | (with_reducible exact spec_l5Rests.mono _ _)
   | (with_reducible exact LeO.refl _)
   | (with_reducible exact LeO.none _)
   | (with_reducible refine LeO.ite ?_ ?_)
   | (with_reducible refine LeO.bind ?_ (fun _ => ?_))
   | exact ih0 _ _ _ _ _ _ _
   | exact ih1 _ _ _ _ _
   | exact spec_l2Of.mono _ _ _ _
   | exact spec_l5Choose.mono _ _ _ _ _
   | exact spec_l5Rests.mono _ _
   | exact LeO.none _
   | refine LeO.ite ?_ ?_
   | refine LeO.bind ?_ (fun _ => ?_)
theorem spec_l5Bound.mono : ∀ a0 a1 a2 k, LeO (spec_l5Bound.f k a0 a1 a2) (spec_l5Bound.f (k + 1) a0 a1 a2) := by
 intro a0 a1 a2 k
 obtain ⟨ih0, ih1⟩ := spec_l5Bound.mono_l k
 unfold spec_l5Bound.f
 repeat' first
   | (with_reducible exact ih0 _ _ _ _ _ _ _)
   | (with_reducible exact ih1 _ _ _ _ _)
   | (with_reducible exact spec_l2Of.mono _ _ _ _)
   | (with_reducible exact spec_l5Choose.mono _ _ _ _ _)
   | (with_reducible exact spec_l5Rests.mono _ _)
   | (with_reducible exact LeO.refl _)
   | (with_reducible exact LeO.none _)
   | (with_reducible refine LeO.ite ?_ ?_)
   | (with_reducible refine LeO.bind ?_ (fun _ => ?_))
   | exact ih0 _ _ _ _ _ _ _
   | exact ih1 _ _ _ _ _
   | exact spec_l2Of.mono _ _ _ _
   | exact spec_l5Choose.mono _ _ _ _ _
   | exact spec_l5Rests.mono _ _
   | exact LeO.none _
   | refine LeO.ite ?_ ?_
   | refine LeO.bind ?_ (fun _ => ?_)
def spec_l5Bound.T7 : Bool × List (List Nat × List Nat) := (true, [([], []), ([], []), ([], []), ([1, 2], [1, 2]), ([3], [3]), ([4], [4]), ([0, 5], [0, 5]), ([], []), ([], []), ([7, 8], [7, 8]), ([9], [9]), ([10], [10]), ([6, 11], [6, 11]), ([12, 6, 0, 1, 2, 3, 4, 5, 6, 7, 8, 9, 10, 11, 12], [0, 12])])
def spec_l5Bound.B7 : List Nat := [0, 0, 0, 6, 14, 30, 63, 0, 0, 384, 896, 1920, 4095, 8191]
theorem spec_l5Bound.tab7 : rtab .any (opsOf Try.f36 7) = spec_l5Bound.T7 := by kernel_rfl
theorem spec_l5Bound.bits7 : waitsOk spec_l5Bound.T7.2 spec_l5Bound.B7 = true := by kernel_rfl
def spec_l5Bound.T14 : Bool × List (List Nat × List Nat) := (true, [([], []), ([], []), ([], []), ([1, 2], [1, 2]), ([3], [3]), ([4], [4]), ([], []), ([], []), ([6, 7], [6, 7]), ([8], [8]), ([9], [9]), ([0, 5, 0, 1, 2, 3, 4, 5, 6, 7, 8, 9, 10], [0, 5]), ([11, 10, 0, 1, 2, 3, 4, 5, 6, 7, 8, 9, 10], [10, 11])])
def spec_l5Bound.B14 : List Nat := [0, 0, 0, 6, 14, 30, 0, 0, 192, 448, 960, 2047, 4095]
theorem spec_l5Bound.tab14 : rtab .any (opsOf Try.f36 14) = spec_l5Bound.T14 := by kernel_rfl
theorem spec_l5Bound.bits14 : waitsOk spec_l5Bound.T14.2 spec_l5Bound.B14 = true := by kernel_rfl
set_option maxHeartbeats 8000000 in
set_option maxRecDepth 100000 in
theorem spec_l5Bound.calls (k : Nat) (A0 : Option Addr) (c0 : Nat) (l0 : List (S61)) (A1 : Option Addr) (c1 : Nat) (l1 : List Int) (a2 : Int) (r : Int) (w : World) (hr0 : Kd.C k61 w A0 l0.length l0) (hc0 : l0.length ≤ c0) (hr1 : Kd.C (Kd.int .i64) w A1 l1.length l1) (hc1 : l1.length ≤ c1) (h : spec_l5Bound.f k l0 l1 a2 = some r) :
  Calls Try.prog 36 #[.slice A0 l0.length c0, .slice A1 l1.length c1, .int .i64 a2] w fun e w' => e = .returned (.int .i64 r) ∧ Below w.heap.size w w' := by
 have HR0 := Aside0.mk hr0
 have HC0 := Aside0.mk hc0
 clear hr0 hc0
 have HR1 := Aside0.mk hr1
 have HC1 := Aside0.mk hc1
 clear hr1 hc1
 have HB := Aside0.mk (Below.refl w.heap.size w)
 have H : ((spec_l5Rests.f k l0).bind fun t349 => (if 0 ≤ (l0.length : Int) then (if ((l0.length : Int) : Int).toNat ≤ 35184372088832 then (spec_l5Bound.l0 k l0 l1 a2 t349 0 (List.replicate ((l0.length : Int) : Int).toNat 0) 0) else (none)) else (none))) = some r := h
 clear h
 replace H := Option.bind_eq_some_iff.mp H
 obtain ⟨t349, A40, H⟩ := H
 replace H : (if 0 ≤ (l0.length : Int) then (if ((l0.length : Int) : Int).toNat ≤ 35184372088832 then (spec_l5Bound.l0 k l0 l1 a2 t349 0 (List.replicate ((l0.length : Int) : Int).toNat 0) 0) else (none)) else (none)) = some r := H
 have A4 := Aside0.mk A40
 clear A40
 by_cases c5 : 0 ≤ (l0.length : Int)
 rotate_left
 ·rw [if_neg c5] at H
  exact absurd H (by simp)
 rw [if_pos c5] at H
 have c5b0 := eq_true c5
 have c5b1 : decide (0 ≤ (l0.length : Int)) = true := decide_eq_true c5
 clear c5
 by_cases c6 : ((l0.length : Int) : Int).toNat ≤ 35184372088832
 rotate_left
 ·rw [if_neg c6] at H
  exact absurd H (by simp)
 rw [if_pos c6] at H
 have c6b0 := eq_true c6
 have c6b1 : decide (((l0.length : Int) : Int).toNat ≤ 35184372088832) = true := decide_eq_true c6
 clear c6
 obtain ⟨y352, hy352⟩ : ∃ y_ : List Int, y_ = (List.replicate ((l0.length : Int) : Int).toNat 0) := ⟨_, rfl⟩
 replace H : (spec_l5Bound.l0 k l0 l1 a2 t349 0 y352 0) = some r := by first | (rw [hy352]; with_reducible exact H) | (have H2_ := (Option.bind_some _ _).symm.trans H; rw [hy352]; with_reducible exact H2_) | (have H2_ := (Option.bind_some _ _).symm.trans H; with_reducible exact H2_) | with_reducible exact H | (rw [hy352]; exact H) | exact H
 have Ny352 := Aside0.mk hy352
 clear hy352
 have H' := Aside0.mk H
 clear H
 go_enter Try.func36, Try.ntmps36
 go_wp2_with (first | ((with_reducible refine gate_callee (f := 67) rfl ?_); refine goesL_ (some 15) rfl rfl Try.func67 (by kernel_rfl) rfl #[.slice A0 l0.length c0] rfl (by (try simp only [mA_]); first | done | rfl | (simp only [List.length_drop, List.length_take]; rfl)) ?_; (with_reducible refine (spec_l5Rests.calls k _ _ l0 t349 _ ?side1 ?side2 A4.out).mono ?_); (case side1 => repeat (first | exact HR0.out | (with_reducible refine Kd.C_alloc ?_ _) | (with_reducible refine Kd.C_drewN ?_ _) | (with_reducible refine Kd.C_drew ?_))); (case side2 => exact HC0.out); rintro e w7 ⟨v350, rfl, ho0, hb⟩; refine ⟨_, rfl, ?_⟩; have n0_ := Aside0.mk (Kd.R_lower ho0 (below_size (bw HB.out))); have n1_ := Aside0.mk (below_step (bw HB.out) hb); have HO351 := n0_; replace HB := n1_; clear n0_ n1_; (try clear hb); (try clear hb2); (try clear hk); (try clear hi); (try clear ho0)) | ((with_reducible refine gate_dst (N := 18) rfl ?_); refine Kd.R_make (Kd.int .i64) _ 3 rfl (N := 18) rfl 23 _ _ rfl (l0.length : Int) rfl rfl Try.underlying23 (.int .i64 0) 8 info3 rfl (by decide) (by omega) 0 (ok := fun _ => True) (okp := fun _ => True) rfl (fun _ hk => hk) trivial (of_decide_eq_true (by first | (with_reducible assumption) | assumption)) (Nat.le_trans (Nat.mul_le_mul_right _ (of_decide_eq_true (by first | (with_reducible assumption) | assumption) : (l0.length : Int).toNat ≤ 35184372088832)) (by omega)) (Below.refl _ _) (Nat.le_refl _) ?_; intro v353 w8 ho9 hb hg_ hnew_; clear hg_ hnew_; (first | rw [← Ny352.out] at ho9 | (simp only [Int.reduceToNat] at ho9; rw [← Ny352.out] at ho9)); have n0_ := Aside0.mk (Kd.R_elder' (bR HO351.out) (Kd.R_base ho9) hb); have n1_ := Aside0.mk (Kd.R_lower (Kd.R_new' ho9 (Kd.R_lt (bR HO351.out))) (below_size (bw HB.out))); have n2_ := Aside0.mk (below_step (bw HB.out) hb); replace HO351 := n0_; have HO354 := n1_; replace HB := n2_; clear n0_ n1_ n2_; clear hb ho9))
 go_loopg [8, 10] k (fun kq v8 v10 w' => ∃ (x7_1 : List Int) (x8_1 : Int) (x9_1 : List Int) (x10_1 : Int), v8 = .int .i64 x8_1 ∧ v10 = .int .i64 x10_1 ∧ Aside0 (spec_l5Bound.l0 kq l0 l1 a2 x7_1 x8_1 x9_1 x10_1 = some r) ∧ Aside0 (kq ≤ k) ∧ Aside0 (Kd.R (Kd.int .i64) 3 w' w.heap.size (fun k_ => some k_ ≠ (v353 : Value).ownBlock) v350 x7_1) ∧ Aside0 (Kd.R (Kd.int .i64) 3 w' w.heap.size (fun k_ => some k_ ≠ (v350 : Value).ownBlock) v353 x9_1) ∧ Aside0 (Below w.heap.size w w'))
 case atStart => exact ⟨(t349), (0), (y352), (0), (by first | rfl | (simp; done) | (simp [*]; done)), (by first | rfl | (simp; done) | (simp [*]; done)), H', ⟨Nat.le_refl _⟩, ⟨by (with_reducible repeat (first | apply Kd.R_alloc | apply Kd.R_drewN | apply Kd.R_drew)); exact Kd.R_mono HO351.out (fun _ hk => hk.2)⟩, ⟨by (with_reducible repeat (first | apply Kd.R_alloc | apply Kd.R_drewN | apply Kd.R_drew)); exact Kd.R_mono HO354.out (fun _ hk => hk.2)⟩, ⟨bw HB.out⟩⟩
 case round =>
  clear H'
  try clear c1
  try clear p2
  try clear c3
  try clear c5
  try clear c5b0
  try clear c5b1
  try clear c6
  try clear c6b0
  try clear c6b1
  obtain ⟨x7_1, x8_1, x9_1, x10_1, rfl, rfl, HA, HK1, HO_7, HO_9, HB⟩ := hrel
  cases gk with
  | zero => exact absurd HA.out (by simp [spec_l5Bound.l0])
  | succ k1 =>
   have H := HA.out
   clear HA
   simp only [spec_l5Bound.l0] at H
   by_cases c10 : x10_1 < (l1.length : Int)
   rotate_left
   ·rw [if_neg c10] at H
    have c10b0 : decide (x10_1 < (l1.length : Int)) = false := decide_eq_false c10
    clear c10
    replace H := Option.bind_eq_some_iff.mp H
    obtain ⟨t361, A240, H⟩ := H
    replace H : (spec_l5Bound.l1 k1 l0 a2 x9_1 t361 0) = some r := H
    have A24 := Aside0.mk A240
    clear A240
    have H' := Aside0.mk H
    clear H
    obtain ⟨Ao25, co25, eo25⟩ := Kd.R_slice HO_7.out
    subst eo25
    go_wp2_with (first | ((with_reducible refine gate_callee (f := 69) rfl ?_); refine goesL_ (some 53) rfl rfl Try.func69 (by kernel_rfl) rfl #[.slice A0 l0.length c0, .slice Ao25 x7_1.length co25, .int .i64 x8_1, .int .i64 a2] rfl (by (try simp only [mA_]); first | done | rfl | (simp only [List.length_drop, List.length_take]; rfl)) ?_; (with_reducible refine (spec_l5Choose.calls k1 _ _ l0 _ _ x7_1 x8_1 a2 t361 _ ?side1 ?side2 ?side3 ?side4 A24.out).mono ?_); (case side1 => first | exact bC HR0.out HB.out | exact Kd.C_below HR0.out HB.out); (case side2 => exact HC0.out); (case side3 => repeat (first | exact (Kd.R_reads' HO_7.out).2.2 | (with_reducible refine Kd.C_alloc ?_ _) | (with_reducible refine Kd.C_drewN ?_ _) | (with_reducible refine Kd.C_drew ?_))); (case side4 => exact (Kd.R_reads' HO_7.out).2.1); rintro e w26 ⟨v362, rfl, ho0, hb⟩; refine ⟨_, rfl, ?_⟩; have n0_ := Aside0.mk (Kd.R_below (bR HO_7.out) hb); have n1_ := Aside0.mk (Kd.R_below (bR HO_9.out) hb); have n2_ := Aside0.mk (Kd.R_lower ho0 (below_size (bw HB.out))); have n3_ := Aside0.mk (below_step (bw HB.out) hb); replace HO_7 := n0_; replace HO_9 := n1_; have HO363 := n2_; replace HB := n3_; clear n0_ n1_ n2_ n3_; (try clear hb); (try clear hb2); (try clear hk); (try clear hi); (try clear ho0)))
    go_loopg [13] k1 (fun kq v13 w' => ∃ (x9_2 : List Int) (x13_2 : Int), v13 = .int .i64 x13_2 ∧ Aside0 (spec_l5Bound.l1 kq l0 a2 x9_2 t361 x13_2 = some r) ∧ Aside0 (kq ≤ k1) ∧ Aside0 (Kd.R (Kd.int .i64) 3 w' w.heap.size (fun _ => True) v353 x9_2) ∧ Aside0 (Kd.R k92 92 w' w.heap.size (fun _ => True) v362 t361) ∧ Aside0 (Below w.heap.size w w'))
    case atStart => exact ⟨(x9_1), (0), (by first | rfl | (simp; done) | (simp [*]; done)), H', ⟨Nat.le_refl _⟩, ⟨by (with_reducible repeat (first | apply Kd.R_alloc | apply Kd.R_drewN | apply Kd.R_drew)); exact Kd.R_mono HO_9.out (fun _ hk => trivial)⟩, ⟨bR HO363.out⟩, ⟨bw HB.out⟩⟩
    case round =>
     clear H'
     try clear c1
     try clear p1
     try clear q1
     try clear hx1
     try clear p2
     try clear c3
     try clear p3
     try clear q3
     try clear hx3
     try clear c5
     try clear c5b0
     try clear c5b1
     try clear c6
     try clear c6b0
     try clear c6b1
     try clear p6
     try clear c10
     try clear c10b0
     try clear c11
     try clear c11b0
     try clear c12
     try clear c12b0
     try clear c13
     try clear c13b0
     try clear c15
     try clear c15b0
     try clear p16
     try clear q16
     try clear hx16
     try clear hf16
     try clear c17
     try clear c17b0
     try clear p18
     try clear q18
     try clear hx18
     try clear hf18
     try clear hx16_0
     try clear hx18_0
     try clear hx355_0
     try clear hx356_0
     try clear hx356_1
     try clear hx356_2
     try clear hx356_3
     try clear hx358_0
     try clear hx358_1
     try clear hx358_2
     try clear hx358_3
     try clear p16
     try clear p18
     try clear p2
     try clear p355
     try clear p356
     try clear p358
     try clear q16
     try clear q18
     try clear q355
     try clear q356
     try clear q358
     obtain ⟨x9_2, x13_2, rfl, HA, HK2, HO_9, HO_12, HB⟩ := hrel
     cases gk with
     | zero => exact absurd HA.out (by simp [spec_l5Bound.l1])
     | succ k2 =>
      have H := HA.out
      clear HA
      simp only [spec_l5Bound.l1] at H
      by_cases c27 : x13_2 < (t361.length : Int)
      rotate_left
      ·rw [if_neg c27] at H
       have c27b0 : decide (x13_2 < (t361.length : Int)) = false := decide_eq_false c27
       clear c27
       replace H := Option.bind_eq_some_iff.mp H
       obtain ⟨t367, A350, H⟩ := H
       replace H : (some t367) = some r := H
       have A35 := Aside0.mk A350
       clear A350
       obtain rfl := Option.some.inj H
       obtain ⟨Ao36, co36, eo36⟩ := Kd.R_slice HO_12.out
       subst eo36
       obtain ⟨Ao37, co37, eo37⟩ := Kd.R_slice HO_9.out
       subst eo37
       go_wp2_with (first | ((with_reducible refine gate_callee (f := 58) rfl ?_); refine goesL_ (some 75) rfl rfl Try.func58 (by kernel_rfl) rfl #[.slice A0 l0.length c0, .slice Ao37 x9_2.length co37, .int .i64 a2] rfl (by (try simp only [mA_]); first | done | rfl | (simp only [List.length_drop, List.length_take]; rfl)) ?_; (with_reducible refine (spec_l2Of.calls k2 _ _ l0 _ _ x9_2 a2 t367 _ ?side1 ?side2 ?side3 ?side4 A35.out).mono ?_); (case side1 => first | exact bC HR0.out HB.out | exact Kd.C_below HR0.out HB.out); (case side2 => exact HC0.out); (case side3 => repeat (first | exact (Kd.R_reads' HO_9.out).2.2 | (with_reducible refine Kd.C_alloc ?_ _) | (with_reducible refine Kd.C_drewN ?_ _) | (with_reducible refine Kd.C_drew ?_))); (case side4 => exact (Kd.R_reads' HO_9.out).2.1); rintro e w38 ⟨rfl, hb⟩; refine ⟨_, rfl, ?_⟩; have n0_ := Aside0.mk (Kd.R_below (bR HO_9.out) hb); have n1_ := Aside0.mk (Kd.R_below (bR HO_12.out) hb); have n2_ := Aside0.mk (below_step (bw HB.out) hb); replace HO_9 := n0_; replace HO_12 := n1_; replace HB := n2_; clear n0_ n1_ n2_; (try clear hb); (try clear hb2); (try clear hk); (try clear hi)))
       go_ret
       exact ⟨by first | rfl | (simp [errW_none, errW_some] <;> rfl) | (simp [*, errW_none, errW_some] <;> rfl), bw HB.out⟩
      rw [if_pos c27] at H
      have c27b0 : decide (x13_2 < (t361.length : Int)) = true := decide_eq_true c27
      clear c27
      by_cases c28 : 0 ≤ x13_2
      rotate_left
      ·rw [if_neg c28] at H
       exact absurd H (by simp)
      rw [if_pos c28] at H
      have c28b0 : decide (0 ≤ x13_2) = true := decide_eq_true c28
      clear c28
      by_cases c29 : 0 ≤ ((rd_T92 t361 x13_2).f0)
      rotate_left
      ·rw [if_neg c29] at H
       exact absurd H (by simp)
      rw [if_pos c29] at H
      have c29b0 : decide (0 ≤ ((rd_T92 t361 x13_2).f0)) = true := decide_eq_true c29
      clear c29
      by_cases c30 : ((rd_T92 t361 x13_2).f0) < (x9_2.length : Int)
      rotate_left
      ·rw [if_neg c30] at H
       exact absurd H (by simp)
      rw [if_pos c30] at H
      have c30b0 : decide (((rd_T92 t361 x13_2).f0) < (x9_2.length : Int)) = true := decide_eq_true c30
      clear c30
      obtain ⟨y366, hy366⟩ : ∃ y_ : List Int, y_ = (x9_2.set (((rd_T92 t361 x13_2).f0) : Int).toNat ((rd_T92 t361 x13_2).f2)) := ⟨_, rfl⟩
      replace H : (spec_l5Bound.l1 k2 l0 a2 y366 t361 (wrap64 (x13_2 + 1))) = some r := by first | (rw [hy366]; with_reducible exact H) | (have H2_ := (Option.bind_some _ _).symm.trans H; rw [hy366]; with_reducible exact H2_) | (have H2_ := (Option.bind_some _ _).symm.trans H; with_reducible exact H2_) | with_reducible exact H | (rw [hy366]; exact H) | exact H
      have Ny366 := Aside0.mk hy366
      clear hy366
      have H' := Aside0.mk H
      clear H
      obtain ⟨Ao32, co32, eo32⟩ := Kd.R_slice HO_12.out
      subst eo32
      try go_wp2
      have n0_ := Aside0.mk (Kd.R_drew HO_9.out)
      have n1_ := Aside0.mk (Kd.R_drew HO_12.out)
      have n2_ := Aside0.mk (below_drew1 HB.out)
      replace HO_9 := n0_
      replace HO_12 := n1_
      replace HB := n2_
      clear n0_ n1_ n2_
      have p364 : 0 ≤ (x13_2 : Int) := of_decide_eq_true (by first | (with_reducible assumption) | assumption)
      have q364 : x13_2 < (t361.length : Int) := of_decide_eq_true (by first | (with_reducible assumption) | assumption)
      obtain ⟨ad364, e364, hx364_0, hx364_1, hx364_2⟩ := at_T92 (Kd.R_reads' HO_12.out).2.2 x13_2 p364 q364
      cases e364
      replace p364 := eq_true p364
      replace q364 := eq_true q364
      have p365 : 0 ≤ (x13_2 : Int) := of_decide_eq_true (by first | (with_reducible assumption) | assumption)
      have q365 : x13_2 < (t361.length : Int) := of_decide_eq_true (by first | (with_reducible assumption) | assumption)
      obtain ⟨ad365, e365, hx365_0, hx365_1, hx365_2⟩ := at_T92 (Kd.R_reads' HO_12.out).2.2 x13_2 p365 q365
      obtain rfl : ad364 = ad365 := (by injection e365)
      replace p365 := eq_true p365
      replace q365 := eq_true q365
      have p31 : 0 ≤ (((rd_T92 t361 x13_2).f0) : Int) := of_decide_eq_true (by first | (with_reducible assumption) | assumption)
      have q31 : (((rd_T92 t361 x13_2).f0) : Int) < ((x9_2.length : Int) : Int) := of_decide_eq_true (by first | (with_reducible assumption) | assumption)
      obtain ⟨go31, co31, eo31, gb31, gl31, cl31, HG31⟩ := Kd.R_form HO_9.out (by omega)
      (first | cases eo31 | (injection eo31 with ea_ en_ ec_; (first | subst ea_ | (injection ea_ with ea_; subst ea_)); subst ec_; clear en_))
      have GB31 := Aside0.mk gb31
      have GG31 := Aside0.mk HG31
      clear gb31 gl31 HG31
      obtain ⟨hx31_0, hf31_0⟩ := Kd.R_celln 0 HO_9.out (((rd_T92 t361 x13_2).f0) : Int) p31 q31
      replace p31 := eq_true p31
      replace q31 := eq_true q31
      have HP34 := Kd.R_putn HO_9.out (((rd_T92 t361 x13_2).f0) : Int) ((rd_T92 t361 x13_2).f2)
      rw [← Ny366.out] at HP34
      have HQ34 := Aside0.mk HP34
      clear HP34
      refine start_ (n := 13) (S := fun w' => w'.cell? (ad364.add ((x13_2).toNat * 3)) = some (.int .i64 ((rd_T92 t361 x13_2).f0)) ∧ w'.cell? ⟨(ad364.add ((x13_2).toNat * 3)).block, (ad364.add ((x13_2).toNat * 3)).off + 1, none⟩ = some (.int .i64 ((rd_T92 t361 x13_2).f1)) ∧ w'.cell? ⟨(ad364.add ((x13_2).toNat * 3)).block, (ad364.add ((x13_2).toNat * 3)).off + 2, none⟩ = some (.int .i64 ((rd_T92 t361 x13_2).f2)) ∧ w'.cell? (ad364.add ((x13_2).toNat * 3)) = some (.int .i64 ((rd_T92 t361 x13_2).f0)) ∧ w'.cell? ⟨(ad364.add ((x13_2).toNat * 3)).block, (ad364.add ((x13_2).toNat * 3)).off + 1, none⟩ = some (.int .i64 ((rd_T92 t361 x13_2).f1)) ∧ w'.cell? ⟨(ad364.add ((x13_2).toNat * 3)).block, (ad364.add ((x13_2).toNat * 3)).off + 2, none⟩ = some (.int .i64 ((rd_T92 t361 x13_2).f2))) (ds := [12]) q36_15 (by kernel_rfl) rfl rfl ⟨hx364_0, hx364_1, hx364_2, hx365_0, hx365_1, hx365_2⟩ (fun hHeld => ?_); refine with_tabW spec_l5Bound.tab14 spec_l5Bound.bits14 (fun HT_ HW_ => ?_)
      generalize wr.drew = w33 at HO_9 HO_12 HB GG31 HQ34 hf31_0 hx31_0 hx364_0 hx364_1 hx364_2 hx365_0 hx365_1 hx365_2 hHeld ⊢
      refine pup_ (i := 0) (N := some 60) HT_ rfl rfl (by kernel_rfl) (fun _ _ _ h => h) (Or.inl ⟨by rfl, by intro w'; go_simp; with_reducible rfl⟩) (by simp only [aq_]; rfl) ?_
      refine pup_ (i := 1) (N := some 61) HT_ rfl rfl (by kernel_rfl) (fun _ _ _ h => h) (Or.inl ⟨by rfl, by intro w'; go_simp; with_reducible rfl⟩) (by simp only [aq_]; rfl) ?_
      refine pup_ (i := 2) (N := some 62) HT_ rfl rfl (by kernel_rfl) (fun _ _ _ h => h) (Or.inl ⟨by rfl, by intro w'; go_simp; with_reducible rfl⟩) (by simp only [aq_]; rfl) ?_
      refine pup_ (i := 3) (N := some 63) HT_ rfl rfl (by kernel_rfl) (fun _ _ _ h => h) (Or.inl ⟨by rfl, by intro w'; go_simp; with_reducible rfl⟩) (by simp only [aq_]; rfl) ?_
      refine pup_ (i := 4) (N := some 64) HT_ rfl rfl (by kernel_rfl) (fun _ _ _ h => h) (Or.inl ⟨by rfl, by intro w'; go_simp; with_reducible rfl⟩) (by simp only [aq_]; rfl) ?_
      refine pup_ (i := 6) (N := some 66) HT_ rfl rfl (by kernel_rfl) (fun _ _ _ h => h) (Or.inl ⟨by rfl, by intro w'; go_simp; with_reducible rfl⟩) (by simp only [aq_]; rfl) ?_
      refine pup_ (i := 7) (N := some 67) HT_ rfl rfl (by kernel_rfl) (fun _ _ _ h => h) (Or.inl ⟨by rfl, by intro w'; go_simp; with_reducible rfl⟩) (by simp only [aq_]; rfl) ?_
      refine pup_ (i := 8) (N := some 68) HT_ rfl rfl (by kernel_rfl) (fun _ _ _ h => h) (Or.inl ⟨by rfl, by intro w'; go_simp; with_reducible rfl⟩) (by simp only [aq_]; rfl) ?_
      refine pup_ (i := 9) (N := some 69) HT_ rfl rfl (by kernel_rfl) (fun _ _ _ h => h) (Or.inl ⟨by rfl, by intro w'; go_simp; with_reducible rfl⟩) (by simp only [aq_]; rfl) ?_
      refine take_ (i := 5) (N := some 65) (v := ?_) (a' := ?_) q36_25 rfl rfl (take_ofW HT_.out HW_.out (by kernel_rfl)) (fun _ _ _ h => h) (Or.inl ⟨by rfl, ?_⟩) hHeld ?_ ?_
      rotate_left
      ·rintro w' ⟨s0, s1, s2, s3, s4, s5⟩
       go_simp
       with_reducible rfl
      rotate_left
      ·simp only [aq_]
       rfl
      refine take_ (i := 10) (N := some 70) (v := ?_) (a' := ?_) q36_26 rfl rfl (take_ofW HT_.out HW_.out (by kernel_rfl)) (fun _ _ _ h => h) (Or.inl ⟨by rfl, ?_⟩) hHeld ?_ ?_
      rotate_left
      ·rintro w' ⟨s0, s1, s2, s3, s4, s5⟩
       go_simp
       with_reducible rfl
      rotate_left
      ·simp only [aq_]
       rfl
      refine pup_ (i := 11) (N := some 71) HT_ rfl rfl (by kernel_rfl) (fun _ _ _ h => h) (Or.inl ⟨by rfl, by intro w'; go_simp; with_reducible rfl⟩) (by simp only [aq_]; rfl) ?_
      refine last_ (i := 12) (N := none) q36_28 rfl rfl (one_of HT_.out (by kernel_rfl)) (by decide) (fun K hK => ?_)
      refine skip_ (w1 := ?_) (by rfl) rfl ?_ ?_
      rotate_left
      ·go_simp
       rfl
      refine hK.out _ _ ?_
      clear hK K
      refine done_ (done_of HT_.out (by kernel_rfl)) ?_
      try go_wp2
      go_roundg k2
      case measure => have := HK1.out; have := HK2.out; omega
      case rel => exact ⟨(y366), (wrap64 (x13_2 + 1)), (by first | rfl | (simp; done) | (simp [*]; done)), H', ⟨by have := HK1.out; have := HK2.out; omega⟩, ⟨bR HQ34.out⟩, ⟨by (with_reducible repeat (first | apply Kd.R_alloc | apply Kd.R_drewN | apply Kd.R_drew)); exact Kd.R_mono (Kd.R_far (p := ⟨go31, (((rd_T92 t361 x13_2).f0) : Int).toNat, none⟩) (Kd.R_types HO_12.out GG31.out (by decide)) (fun _ hk => hk.2) (.int .i64 ((rd_T92 t361 x13_2).f2))) (fun _ hk => trivial)⟩, ⟨by repeat (first | (with_reducible first | exact HB.out | apply below_alloc | apply pw_below_drewN | apply below_drew1 | refine below_set ?_ GB31.out) | exact HB.out)⟩⟩
   rw [if_pos c10] at H
   have c10b0 : decide (x10_1 < (l1.length : Int)) = true := decide_eq_true c10
   clear c10
   by_cases c11 : 0 ≤ x10_1
   rotate_left
   ·rw [if_neg c11] at H
    exact absurd H (by simp)
   rw [if_pos c11] at H
   have c11b0 : decide (0 ≤ x10_1) = true := decide_eq_true c11
   clear c11
   by_cases c12 : 0 ≤ (rd l1 x10_1)
   rotate_left
   ·rw [if_neg c12] at H
    exact absurd H (by simp)
   rw [if_pos c12] at H
   have c12b0 : decide (0 ≤ (rd l1 x10_1)) = true := decide_eq_true c12
   clear c12
   by_cases c13 : (rd l1 x10_1) < (l0.length : Int)
   rotate_left
   ·rw [if_neg c13] at H
    exact absurd H (by simp)
   rw [if_pos c13] at H
   have c13b0 : decide ((rd l1 x10_1) < (l0.length : Int)) = true := decide_eq_true c13
   clear c13
   replace H := Option.bind_eq_some_iff.mp H
   obtain ⟨t357, A140, H⟩ := H
   replace H : (if (rd l1 x10_1) < (x9_1.length : Int) then (if (rd l1 x10_1) < (x7_1.length : Int) then (spec_l5Bound.l0 k1 l0 l1 a2 (x7_1.set ((rd l1 x10_1) : Int).toNat 0) (wrap64 (t357 + ((rd_T61 l0 (rd l1 x10_1)).f0))) (x9_1.set ((rd l1 x10_1) : Int).toNat (wrap64 (t357 + ((rd_T61 l0 (rd l1 x10_1)).f0)))) (wrap64 (x10_1 + 1))) else (none)) else (none)) = some r := H
   have A14 := Aside0.mk A140
   clear A140
   by_cases c15 : (rd l1 x10_1) < (x9_1.length : Int)
   rotate_left
   ·rw [if_neg c15] at H
    exact absurd H (by simp)
   rw [if_pos c15] at H
   have c15b0 : decide ((rd l1 x10_1) < (x9_1.length : Int)) = true := decide_eq_true c15
   clear c15
   obtain ⟨y359, hy359⟩ : ∃ y_ : List Int, y_ = (x9_1.set ((rd l1 x10_1) : Int).toNat (wrap64 (t357 + ((rd_T61 l0 (rd l1 x10_1)).f0)))) := ⟨_, rfl⟩
   replace H : (if (rd l1 x10_1) < (x7_1.length : Int) then (spec_l5Bound.l0 k1 l0 l1 a2 (x7_1.set ((rd l1 x10_1) : Int).toNat 0) (wrap64 (t357 + ((rd_T61 l0 (rd l1 x10_1)).f0))) y359 (wrap64 (x10_1 + 1))) else (none)) = some r := by first | (rw [hy359]; with_reducible exact H) | (have H2_ := (Option.bind_some _ _).symm.trans H; rw [hy359]; with_reducible exact H2_) | (have H2_ := (Option.bind_some _ _).symm.trans H; with_reducible exact H2_) | with_reducible exact H | (rw [hy359]; exact H) | exact H
   have Ny359 := Aside0.mk hy359
   clear hy359
   by_cases c17 : (rd l1 x10_1) < (x7_1.length : Int)
   rotate_left
   ·rw [if_neg c17] at H
    exact absurd H (by simp)
   rw [if_pos c17] at H
   have c17b0 : decide ((rd l1 x10_1) < (x7_1.length : Int)) = true := decide_eq_true c17
   clear c17
   obtain ⟨y360, hy360⟩ : ∃ y_ : List Int, y_ = (x7_1.set ((rd l1 x10_1) : Int).toNat 0) := ⟨_, rfl⟩
   replace H : (spec_l5Bound.l0 k1 l0 l1 a2 y360 (wrap64 (t357 + ((rd_T61 l0 (rd l1 x10_1)).f0))) y359 (wrap64 (x10_1 + 1))) = some r := by first | (rw [hy360]; with_reducible exact H) | (have H2_ := (Option.bind_some _ _).symm.trans H; rw [hy360]; with_reducible exact H2_) | (have H2_ := (Option.bind_some _ _).symm.trans H; with_reducible exact H2_) | with_reducible exact H | (rw [hy360]; exact H) | exact H
   have Ny360 := Aside0.mk hy360
   clear hy360
   have H' := Aside0.mk H
   clear H
   have p355 : 0 ≤ (x10_1 : Int) := of_decide_eq_true (by first | (with_reducible assumption) | assumption)
   have q355 : x10_1 < (l1.length : Int) := of_decide_eq_true (by first | (with_reducible assumption) | assumption)
   obtain ⟨ad355, e355, hx355_0⟩ := Kd.at_int HR1.out x10_1 p355 q355
   cases e355
   replace hx355_0 := (HB.out.cell (World.block_lt_of_cell? w _ hx355_0)).trans hx355_0
   replace p355 := eq_true p355
   replace q355 := eq_true q355
   try go_wp2
   have n0_ := Aside0.mk (Kd.R_drew HO_7.out)
   have n1_ := Aside0.mk (Kd.R_drew HO_9.out)
   have n2_ := Aside0.mk (below_drew1 HB.out)
   replace HO_7 := n0_
   replace HO_9 := n1_
   replace HB := n2_
   clear n0_ n1_ n2_
   have p356 : 0 ≤ ((rd l1 x10_1) : Int) := of_decide_eq_true (by first | (with_reducible assumption) | assumption)
   have q356 : (rd l1 x10_1) < (l0.length : Int) := of_decide_eq_true (by first | (with_reducible assumption) | assumption)
   obtain ⟨ad356, e356, hx356_0, hx356_1, hx356_2, hx356_3⟩ := at_T61 HR0.out (rd l1 x10_1) p356 q356
   have hw356_3 := hx356_3
   have hw356_2 := hx356_2
   have hw356_1 := hx356_1
   have hw356_0 := hx356_0
   cases e356
   replace hx356_0 := (HB.out.cell (World.block_lt_of_cell? w _ hx356_0)).trans hx356_0
   replace hx356_1 := (HB.out.cell (World.block_lt_of_cell? w _ hx356_1)).trans hx356_1
   replace hx356_2 := (HB.out.cell (World.block_lt_of_cell? w _ hx356_2)).trans hx356_2
   replace hx356_3 := (HB.out.cell (World.block_lt_of_cell? w _ hx356_3)).trans hx356_3
   replace p356 := eq_true p356
   replace q356 := eq_true q356
   have p358 : 0 ≤ ((rd l1 x10_1) : Int) := of_decide_eq_true (by first | (with_reducible assumption) | assumption)
   have q358 : (rd l1 x10_1) < (l0.length : Int) := of_decide_eq_true (by first | (with_reducible assumption) | assumption)
   obtain ⟨ad358, e358, hx358_0, hx358_1, hx358_2, hx358_3⟩ := at_T61 HR0.out (rd l1 x10_1) p358 q358
   have hw358_3 := hx358_3
   have hw358_2 := hx358_2
   have hw358_1 := hx358_1
   have hw358_0 := hx358_0
   obtain rfl : ad356 = ad358 := (by injection e358)
   replace hx358_0 := (HB.out.cell (World.block_lt_of_cell? w _ hx358_0)).trans hx358_0
   replace hx358_1 := (HB.out.cell (World.block_lt_of_cell? w _ hx358_1)).trans hx358_1
   replace hx358_2 := (HB.out.cell (World.block_lt_of_cell? w _ hx358_2)).trans hx358_2
   replace hx358_3 := (HB.out.cell (World.block_lt_of_cell? w _ hx358_3)).trans hx358_3
   replace p358 := eq_true p358
   replace q358 := eq_true q358
   refine start_ (n := 14) (S := fun w' => w'.cell? (ad356.add (((rd l1 x10_1)).toNat * 4)) = some (.int .i64 ((rd_T61 l0 (rd l1 x10_1)).f0)) ∧ w'.cell? ⟨(ad356.add (((rd l1 x10_1)).toNat * 4)).block, (ad356.add (((rd l1 x10_1)).toNat * 4)).off + 1, none⟩ = some (.int .i64 ((rd_T61 l0 (rd l1 x10_1)).f1)) ∧ w'.cell? ⟨(ad356.add (((rd l1 x10_1)).toNat * 4)).block, (ad356.add (((rd l1 x10_1)).toNat * 4)).off + 2, none⟩ = some (.int .i64 ((rd_T61 l0 (rd l1 x10_1)).f2)) ∧ w'.cell? ⟨(ad356.add (((rd l1 x10_1)).toNat * 4)).block, (ad356.add (((rd l1 x10_1)).toNat * 4)).off + 3, none⟩ = some (.int .i64 ((rd_T61 l0 (rd l1 x10_1)).f3)) ∧ w'.cell? (ad356.add (((rd l1 x10_1)).toNat * 4)) = some (.int .i64 ((rd_T61 l0 (rd l1 x10_1)).f0)) ∧ w'.cell? ⟨(ad356.add (((rd l1 x10_1)).toNat * 4)).block, (ad356.add (((rd l1 x10_1)).toNat * 4)).off + 1, none⟩ = some (.int .i64 ((rd_T61 l0 (rd l1 x10_1)).f1)) ∧ w'.cell? ⟨(ad356.add (((rd l1 x10_1)).toNat * 4)).block, (ad356.add (((rd l1 x10_1)).toNat * 4)).off + 2, none⟩ = some (.int .i64 ((rd_T61 l0 (rd l1 x10_1)).f2)) ∧ w'.cell? ⟨(ad356.add (((rd l1 x10_1)).toNat * 4)).block, (ad356.add (((rd l1 x10_1)).toNat * 4)).off + 3, none⟩ = some (.int .i64 ((rd_T61 l0 (rd l1 x10_1)).f3))) (ds := []) q36_0 (by kernel_rfl) rfl rfl ⟨(bcl_ HB.out hw356_0 :), (bcl_ HB.out hw356_1 :), (bcl_ HB.out hw356_2 :), (bcl_ HB.out hw356_3 :), (bcl_ HB.out hw358_0 :), (bcl_ HB.out hw358_1 :), (bcl_ HB.out hw358_2 :), (bcl_ HB.out hw358_3 :)⟩ (fun hHeld => ?_); refine with_tabW spec_l5Bound.tab7 spec_l5Bound.bits7 (fun HT_ HW_ => ?_)
   generalize wr.drew = w19 at HO_7 HO_9 HB hx356_0 hx356_1 hx356_2 hx356_3 hx358_0 hx358_1 hx358_2 hx358_3 hHeld ⊢
   refine pup_ (i := 0) (N := some 29) HT_ rfl rfl (by kernel_rfl) (fun _ _ _ h => h) (Or.inl ⟨by rfl, by intro w'; go_simp; with_reducible rfl⟩) (by simp only [aq_]; rfl) ?_
   refine pup_ (i := 1) (N := some 30) HT_ rfl rfl (by kernel_rfl) (fun _ _ _ h => h) (Or.inl ⟨by rfl, by intro w'; go_simp; with_reducible rfl⟩) (by simp only [aq_]; rfl) ?_
   refine pup_ (i := 2) (N := some 31) HT_ rfl rfl (by kernel_rfl) (fun _ _ _ h => h) (Or.inl ⟨by rfl, by intro w'; go_simp; with_reducible rfl⟩) (by simp only [aq_]; rfl) ?_
   refine pup_ (i := 3) (N := some 32) HT_ rfl rfl (by kernel_rfl) (fun _ _ _ h => h) (Or.inl ⟨by rfl, by intro w'; go_simp; with_reducible rfl⟩) (by simp only [aq_]; rfl) ?_
   refine pup_ (i := 4) (N := some 33) HT_ rfl rfl (by kernel_rfl) (fun _ _ _ h => h) (Or.inl ⟨by rfl, by intro w'; go_simp; with_reducible rfl⟩) (by simp only [aq_]; rfl) ?_
   refine pup_ (i := 7) (N := some 36) HT_ rfl rfl (by kernel_rfl) (fun _ _ _ h => h) (Or.inl ⟨by rfl, by intro w'; go_simp; with_reducible rfl⟩) (by simp only [aq_]; rfl) ?_
   refine pup_ (i := 8) (N := some 37) HT_ rfl rfl (by kernel_rfl) (fun _ _ _ h => h) (Or.inl ⟨by rfl, by intro w'; go_simp; with_reducible rfl⟩) (by simp only [aq_]; rfl) ?_
   refine pup_ (i := 9) (N := some 38) HT_ rfl rfl (by kernel_rfl) (fun _ _ _ h => h) (Or.inl ⟨by rfl, by intro w'; go_simp; with_reducible rfl⟩) (by simp only [aq_]; rfl) ?_
   refine pup_ (i := 10) (N := some 39) HT_ rfl rfl (by kernel_rfl) (fun _ _ _ h => h) (Or.inl ⟨by rfl, by intro w'; go_simp; with_reducible rfl⟩) (by simp only [aq_]; rfl) ?_
   refine take_ (i := 5) (N := some 34) (v := ?_) (a' := ?_) q36_10 rfl rfl (take_ofW HT_.out HW_.out (by kernel_rfl)) (fun _ _ _ h => h) (Or.inl ⟨by rfl, ?_⟩) hHeld ?_ ?_
   rotate_left
   ·rintro w' ⟨s0, s1, s2, s3, s4, s5, s6, s7⟩
    go_simp
    with_reducible rfl
   rotate_left
   ·simp only [aq_]
    rfl
   refine take_ (i := 11) (N := some 40) (v := ?_) (a' := ?_) q36_11 rfl rfl (take_ofW HT_.out HW_.out (by kernel_rfl)) (fun _ _ _ h => h) (Or.inl ⟨by rfl, ?_⟩) hHeld ?_ ?_
   rotate_left
   ·rintro w' ⟨s0, s1, s2, s3, s4, s5, s6, s7⟩
    go_simp
    with_reducible rfl
   rotate_left
   ·simp only [aq_]
    rfl
   refine one_ (i := 6) (N := some 35) q36_12 rfl rfl (one_of HT_.out (by kernel_rfl)) (by decide) (fun K hK => ?_)
   refine goes_ Try.func68 (by kernel_rfl) rfl #[.int .i64 x8_1, .int .i64 ((rd_T61 l0 (rd l1 x10_1)).f2)] (by rfl) rfl rfl (by (try simp only [mA_]); first | done | rfl | (simp only [List.length_drop, List.length_take]; rfl)) ?_
   with_reducible refine (spec_l1Most.calls x8_1 ((rd_T61 l0 (rd l1 x10_1)).f2) t357 _ A14.out).mono ?_
   rintro e w' ⟨rfl, ⟨nd, rfl⟩⟩
   refine ⟨_, rfl, ?_⟩
   refine hK.out _ _ ⟨(bcl_ HB.out hw356_0 :), (bcl_ HB.out hw356_1 :), (bcl_ HB.out hw356_2 :), (bcl_ HB.out hw356_3 :), (bcl_ HB.out hw358_0 :), (bcl_ HB.out hw358_1 :), (bcl_ HB.out hw358_2 :), (bcl_ HB.out hw358_3 :)⟩ (fun hHeld => ?_)
   clear hK K
   refine norm_ (a' := ?_) ?_ ?_
   rotate_left
   ·show Act.put _ (some 35) _ = _
    simp only [aq_]
    rfl
   refine pup_ (i := 12) (N := some 41) HT_ rfl rfl (by kernel_rfl) (fun _ _ _ h => h) (Or.inl ⟨by rfl, by intro w'; go_simp; with_reducible rfl⟩) (by simp only [aq_]; rfl) ?_
   refine pup_ (i := 13) (N := some 8) HT_ rfl rfl (by kernel_rfl) (fun _ _ _ h => h) (Or.inl ⟨by rfl, by intro w'; go_simp; with_reducible rfl⟩) (by simp only [aq_]; rfl) ?_
   refine done_ (done_of HT_.out (by kernel_rfl)) ?_
   repeat (rw [drewN_self w19]; generalize hq_ : World.drewN w19 _ = w19; (first | replace HO_7 := Aside0.mk (Kd.R_at hq_ HO_7.out) | replace HO_7 := Aside0.mk (Kd.S_at hq_ HO_7.out) | replace HO_7 := Aside0.mk (Kd.Q_at hq_ HO_7.out) | skip); (first | replace HO_9 := Aside0.mk (Kd.R_at hq_ HO_9.out) | replace HO_9 := Aside0.mk (Kd.S_at hq_ HO_9.out) | replace HO_9 := Aside0.mk (Kd.Q_at hq_ HO_9.out) | skip); (try replace HB := Aside0.mk (below_at hq_ HB.out)); (try replace hx356_0 := cell_at hq_ hx356_0); (try replace hx356_1 := cell_at hq_ hx356_1); (try replace hx356_2 := cell_at hq_ hx356_2); (try replace hx356_3 := cell_at hq_ hx356_3); (try replace hx358_0 := cell_at hq_ hx358_0); (try replace hx358_1 := cell_at hq_ hx358_1); (try replace hx358_2 := cell_at hq_ hx358_2); (try replace hx358_3 := cell_at hq_ hx358_3); clear hq_)
   have p16 : 0 ≤ ((rd l1 x10_1) : Int) := of_decide_eq_true (by first | (with_reducible assumption) | assumption)
   have q16 : ((rd l1 x10_1) : Int) < ((x9_1.length : Int) : Int) := of_decide_eq_true (by first | (with_reducible assumption) | assumption)
   obtain ⟨go16, co16, eo16, gb16, gl16, cl16, HG16⟩ := Kd.R_form HO_9.out (by omega)
   (first | cases eo16 | (injection eo16 with ea_ en_ ec_; (first | subst ea_ | (injection ea_ with ea_; subst ea_)); subst ec_; clear en_))
   have GB16 := Aside0.mk gb16
   have GG16 := Aside0.mk HG16
   clear gb16 gl16 HG16
   obtain ⟨hx16_0, hf16_0⟩ := Kd.R_celln 0 HO_9.out ((rd l1 x10_1) : Int) p16 q16
   replace p16 := eq_true p16
   replace q16 := eq_true q16
   obtain ⟨hy20_, hz20_⟩ := Kd.R_celln 0 HO_9.out ((rd l1 x10_1) : Int) (of_decide_eq_true (by first | (with_reducible assumption) | assumption)) (of_decide_eq_true (by first | (with_reducible assumption) | assumption))
   have HP20 := Kd.R_putg HO_9.out ((rd l1 x10_1) : Int) (wrap64 (t357 + ((rd_T61 l0 (rd l1 x10_1)).f0)))
   try go_wp2_with (first | ((with_reducible refine gate_store (t := 3) (p := 45) rfl ?_); refine store_event (t := 3) (p := 45) (v := ?vo_w21) (w1 := (w19.setCell ⟨go16, ((rd l1 x10_1) : Int).toNat, none⟩ (.int .i64 (wrap64 (t357 + ((rd_T61 l0 (rd l1 x10_1)).f0)))))) ?hg ?ho ?hn ?hr ?_; (case ho => rfl); (case hg => rfl); (case hn => rfl); (case hr => first | (go_simp; done) | (go_simp; rfl)); intro w21 hw; have hg : w19.grownBy w21 (some go16) := (by rw [hw]; exact HP20.2); have hp_ : Kd.R (Kd.int .i64) 3 w21 w.heap.size (fun k_ => some k_ ≠ (v350 : Value).ownBlock) (.slice (some ⟨go16, 0, none⟩) x9_1.length co16) y359 := (by rw [hw, Ny359.out]; exact HP20.1); clear HP20; have n0_ := Aside0.mk (Kd.R_after (v := (.slice (some ⟨go16, 0, none⟩) x9_1.length co16)) (v1 := (.slice (some ⟨go16, 0, none⟩) x9_1.length co16)) (ok := (fun _ => True)) (by (with_reducible repeat (first | apply Kd.R_alloc | apply Kd.R_drewN | apply Kd.R_drew)); exact Kd.R_mono HO_7.out (fun _ hk => ⟨trivial, hk⟩)) hg (.inl rfl)); have n1_ := Aside0.mk (hp_); have n2_ := Aside0.mk ((by rw [hw]; exact below_set (HB.out) GB16.out : Below w.heap.size w w21)); replace HO_7 := n0_; replace HO_9 := n1_; replace HB := n2_; clear n0_ n1_ n2_; clear hg hw hp_; have p18 : 0 ≤ ((rd l1 x10_1) : Int) := of_decide_eq_true (by first | (with_reducible assumption) | assumption); have q18 : ((rd l1 x10_1) : Int) < ((x7_1.length : Int) : Int) := of_decide_eq_true (by first | (with_reducible assumption) | assumption); obtain ⟨go18, co18, eo18, gb18, gl18, cl18, HG18⟩ := Kd.R_form HO_7.out (by omega); (first | cases eo18 | (injection eo18 with ea_ en_ ec_; (first | subst ea_ | (injection ea_ with ea_; subst ea_)); subst ec_; clear en_)); have GB18 := Aside0.mk gb18; have GG18 := Aside0.mk HG18; clear gb18 gl18 HG18; obtain ⟨hx18_0, hf18_0⟩ := Kd.R_celln 0 HO_7.out ((rd l1 x10_1) : Int) p18 q18; replace p18 := eq_true p18; replace q18 := eq_true q18; have n_ := Aside0.mk (Kd.R_mono (ok' := (fun k_ => some k_ ≠ (.slice (some ⟨go16, 0, none⟩) x9_1.length co16 : Value).ownBlock)) HO_7.out (fun k_ hk => hk.2)); clear HO_7; have HO_7 := n_; clear n_; obtain ⟨hy22_, hz22_⟩ := Kd.R_celln 0 HO_7.out ((rd l1 x10_1) : Int) (of_decide_eq_true (by first | (with_reducible assumption) | assumption)) (of_decide_eq_true (by first | (with_reducible assumption) | assumption)); have HP22 := Kd.R_putg HO_7.out ((rd l1 x10_1) : Int) 0) | ((with_reducible refine gate_store (t := 3) (p := 48) rfl ?_); refine store_event (t := 3) (p := 48) (v := ?vo_w23) (w1 := (w21.setCell ⟨go18, ((rd l1 x10_1) : Int).toNat, none⟩ (.int .i64 0))) ?hg ?ho ?hn ?hr ?_; (case ho => rfl); (case hg => rfl); (case hn => rfl); (case hr => first | (go_simp; done) | (go_simp; rfl)); intro w23 hw; have hg : w21.grownBy w23 (some go18) := (by rw [hw]; exact HP22.2); have hp_ : Kd.R (Kd.int .i64) 3 w23 w.heap.size (fun k_ => some k_ ≠ (.slice (some ⟨go16, 0, none⟩) x9_1.length co16 : Value).ownBlock) (.slice (some ⟨go18, 0, none⟩) x7_1.length co18) y360 := (by rw [hw, Ny360.out]; exact HP22.1); clear HP22; have n0_ := Aside0.mk (hp_); have n1_ := Aside0.mk (Kd.R_after (v := (.slice (some ⟨go18, 0, none⟩) x7_1.length co18)) (v1 := (.slice (some ⟨go18, 0, none⟩) x7_1.length co18)) (ok := (fun _ => True)) (by (with_reducible repeat (first | apply Kd.R_alloc | apply Kd.R_drewN | apply Kd.R_drew)); exact Kd.R_mono HO_9.out (fun _ hk => ⟨trivial, hk⟩)) hg (.inl rfl)); have n2_ := Aside0.mk ((by rw [hw]; exact below_set (HB.out) GB18.out : Below w.heap.size w w23)); replace HO_7 := n0_; replace HO_9 := n1_; replace HB := n2_; clear n0_ n1_ n2_; clear hg hw hp_))
   go_roundg k1
   case measure => have := HK1.out; omega
   case rel => exact ⟨(y360), (wrap64 (t357 + ((rd_T61 l0 (rd l1 x10_1)).f0))), (y359), (wrap64 (x10_1 + 1)), (by first | rfl | (simp; done) | (simp [*]; done)), (by first | rfl | (simp; done) | (simp [*]; done)), H', ⟨by have := HK1.out; omega⟩, ⟨bR HO_7.out⟩, ⟨by (with_reducible repeat (first | apply Kd.R_alloc | apply Kd.R_drewN | apply Kd.R_drew)); exact Kd.R_mono HO_9.out (fun _ hk => hk.2)⟩, ⟨bw HB.out⟩⟩

/-! ### spec_SplitGain: function 14 -/
def spec_SplitGain.f (k : Nat) (l0 : List (S61)) (a1 : Int) : Option (Int × Bool) := (spec_l5Two.f k l0 a1).bind fun t368 => (if t368 = true then ((spec_l2Best.f k l0 a1).bind fun bt369 => ((spec_l5Bound.f k l0 (([] : List Int)) a1).bind fun t376 => (some (wrap64 (bt369.2 - t376), true)))) else (some (0, false)))
theorem spec_SplitGain.mono : ∀ a0 a1 k, LeO (spec_SplitGain.f k a0 a1) (spec_SplitGain.f (k + 1) a0 a1) := by
 intro a0 a1 k
 unfold spec_SplitGain.f
 repeat' first
   | (with_reducible exact spec_l2Best.mono _ _ _)
   | (with_reducible exact spec_l5Bound.mono _ _ _ _)
   | (with_reducible exact spec_l5Two.mono _ _ _)
   | (with_reducible exact LeO.refl _)
   | (with_reducible exact LeO.none _)
   | (with_reducible refine LeO.ite ?_ ?_)
   | (with_reducible refine LeO.bind ?_ (fun _ => ?_))
   | exact spec_l2Best.mono _ _ _
   | exact spec_l5Bound.mono _ _ _ _
   | exact spec_l5Two.mono _ _ _
   | exact LeO.none _
   | refine LeO.ite ?_ ?_
   | refine LeO.bind ?_ (fun _ => ?_)
set_option maxHeartbeats 8000000 in
set_option maxRecDepth 100000 in
theorem spec_SplitGain.calls (k : Nat) (A0 : Option Addr) (c0 : Nat) (l0 : List (S61)) (a1 : Int) (r1 : Int) (r2 : Bool) (w : World) (hr0 : Kd.C k61 w A0 l0.length l0) (hc0 : l0.length ≤ c0) (h : spec_SplitGain.f k l0 a1 = some (r1, r2)) :
  Calls Try.prog 14 #[.slice A0 l0.length c0, .int .i64 a1] w fun e w' => e = .returned (.tuple #[.int .i64 r1, .bool r2]) ∧ Below w.heap.size w w' := by
 have HR0 := Aside0.mk hr0
 have HC0 := Aside0.mk hc0
 clear hr0 hc0
 have HB := Aside0.mk (Below.refl w.heap.size w)
 have H : ((spec_l5Two.f k l0 a1).bind fun t368 => (if t368 = true then ((spec_l2Best.f k l0 a1).bind fun bt369 => ((spec_l5Bound.f k l0 (([] : List Int)) a1).bind fun t376 => (some (wrap64 (bt369.2 - t376), true)))) else (some (0, false)))) = some (r1, r2) := h
 clear h
 replace H := Option.bind_eq_some_iff.mp H
 obtain ⟨t368, A30, H⟩ := H
 replace H : (if t368 = true then ((spec_l2Best.f k l0 a1).bind fun bt369 => ((spec_l5Bound.f k l0 (([] : List Int)) a1).bind fun t376 => (some (wrap64 (bt369.2 - t376), true)))) else (some (0, false))) = some (r1, r2) := H
 have A3 := Aside0.mk A30
 clear A30
 by_cases c4 : t368 = true
 rotate_left
 ·replace c4 := Bool.eq_false_iff.mpr c4
  subst c4
  have H1 : (some (0, false)) = some (r1, r2) := by rw [if_neg (show ¬ (false = true) by decide)] at H; exact H
  clear H
  have H := H1
  clear H1
  simp only [Option.some.injEq, Prod.mk.injEq] at H
  obtain ⟨rfl, rfl⟩ := H
  go_enter Try.func14, Try.ntmps14
  go_wp2_with (first | ((with_reducible refine gate_callee (f := 35) rfl ?_); refine goesL_ (some 10) rfl rfl Try.func35 (by kernel_rfl) rfl #[.slice A0 l0.length c0, .int .i64 a1] rfl (by (try simp only [mA_]); first | done | rfl | (simp only [List.length_drop, List.length_take]; rfl)) ?_; (with_reducible refine (spec_l5Two.calls k _ _ l0 a1 false _ ?side1 ?side2 A3.out).mono ?_); (case side1 => repeat (first | exact HR0.out | (with_reducible refine Kd.C_alloc ?_ _) | (with_reducible refine Kd.C_drewN ?_ _) | (with_reducible refine Kd.C_drew ?_))); (case side2 => exact HC0.out); rintro e w13 ⟨rfl, hb⟩; refine ⟨_, rfl, ?_⟩; have n0_ := Aside0.mk (below_step (bw HB.out) hb); replace HB := n0_; clear n0_; (try clear hb); (try clear hb2); (try clear hk); (try clear hi)))
  go_ret2
  exact ⟨by first | rfl | (simp [errW_none, errW_some] <;> rfl) | (simp [*, errW_none, errW_some] <;> rfl), bw HB.out⟩
 subst c4
 have H1 : ((spec_l2Best.f k l0 a1).bind fun bt369 => ((spec_l5Bound.f k l0 (([] : List Int)) a1).bind fun t376 => (some (wrap64 (bt369.2 - t376), true)))) = some (r1, r2) := by rw [if_pos rfl] at H; exact H
 clear H
 have H := H1
 clear H1
 replace H := Option.bind_eq_some_iff.mp H
 obtain ⟨⟨t369, t372⟩, A50, H⟩ := H
 replace H : ((spec_l5Bound.f k l0 (([] : List Int)) a1).bind fun t376 => (some (wrap64 (t372 - t376), true))) = some (r1, r2) := H
 have A5 := Aside0.mk A50
 clear A50
 obtain ⟨y373, hy373⟩ : ∃ y_ : List Int, y_ = (([] : List Int)) := ⟨_, rfl⟩
 replace H : ((spec_l5Bound.f k l0 y373 a1).bind fun t376 => (some (wrap64 (t372 - t376), true))) = some (r1, r2) := by first | (rw [hy373]; with_reducible exact H) | (have H2_ := (Option.bind_some _ _).symm.trans H; rw [hy373]; with_reducible exact H2_) | (have H2_ := (Option.bind_some _ _).symm.trans H; with_reducible exact H2_) | with_reducible exact H | (rw [hy373]; exact H) | exact H
 have Ny373 := Aside0.mk hy373
 clear hy373
 replace H := Option.bind_eq_some_iff.mp H
 obtain ⟨t376, A60, H⟩ := H
 replace H : (some (wrap64 (t372 - t376), true)) = some (r1, r2) := H
 have A6 := Aside0.mk A60
 clear A60
 simp only [Option.some.injEq, Prod.mk.injEq] at H
 obtain ⟨rfl, rfl⟩ := H
 go_enter Try.func14, Try.ntmps14
 go_wp2_with (first | ((with_reducible refine gate_callee (f := 35) rfl ?_); refine goesL_ (some 10) rfl rfl Try.func35 (by kernel_rfl) rfl #[.slice A0 l0.length c0, .int .i64 a1] rfl (by (try simp only [mA_]); first | done | rfl | (simp only [List.length_drop, List.length_take]; rfl)) ?_; (with_reducible refine (spec_l5Two.calls k _ _ l0 a1 true _ ?side1 ?side2 A3.out).mono ?_); (case side1 => repeat (first | exact HR0.out | (with_reducible refine Kd.C_alloc ?_ _) | (with_reducible refine Kd.C_drewN ?_ _) | (with_reducible refine Kd.C_drew ?_))); (case side2 => exact HC0.out); rintro e w7 ⟨rfl, hb⟩; refine ⟨_, rfl, ?_⟩; have n0_ := Aside0.mk (below_step (bw HB.out) hb); replace HB := n0_; clear n0_; (try clear hb); (try clear hb2); (try clear hk); (try clear hi)) | ((with_reducible refine gate_callee (f := 28) rfl ?_); refine goesL_ (some 15) rfl rfl Try.func28 (by kernel_rfl) rfl #[.slice A0 l0.length c0, .int .i64 a1] rfl (by (try simp only [mA_]); first | done | rfl | (simp only [List.length_drop, List.length_take]; rfl)) ?_; (with_reducible refine (spec_l2Best.calls k _ _ l0 a1 t369 t372 _ ?side1 ?side2 A5.out).mono ?_); (case side1 => first | exact bC HR0.out HB.out | exact Kd.C_below HR0.out HB.out); (case side2 => exact HC0.out); rintro e w8 ⟨v370, rfl, ho0, hb⟩; refine ⟨_, rfl, ?_⟩; have n0_ := Aside0.mk (Kd.V_lower (Kd.V_mono (ok' := fun k_ => True) ho0 (fun k_ hk_ => trivial)) (below_size (bw HB.out))); have n1_ := Aside0.mk (below_step (bw HB.out) hb); have HO371 := n0_; replace HB := n1_; clear n0_ n1_; (try clear hb); (try clear hb2); (try clear hk); (try clear hi); (try clear ho0)) | ((with_reducible refine gate_dst (N := 20) rfl ?_); refine Kd.R_lit (Kd.int .i64) _ 3 ?hg (N := 20) ?hd (xs := ([] : List Int)) (inner := []) (ok := fun _ => True) (okp := fun _ => True) ?hr ?hp (fun _ hk => hk) trivial (Below.refl _ _) (Nat.le_refl _) (by simp) ?_; (case hd => rfl); (case hg => rfl); (case hr => first | (go_simp; done) | (go_simp; rfl)); (case hp => exact (Reps.none _ _)); intro v374 w9 ho10 hb hg_ hnew_; clear hg_ hnew_; (first | rw [← Ny373.out] at ho10 | (simp only [Int.reduceToNat] at ho10; rw [← Ny373.out] at ho10)); have n0_ := Aside0.mk (Kd.V_elder' (by (with_reducible repeat (first | apply Kd.V_alloc | apply Kd.V_drewN | apply Kd.V_drew)); exact HO371.out) (Kd.R_base ho10) hb); have n1_ := Aside0.mk (Kd.R_lower ho10 (below_size (bw HB.out))); have n2_ := Aside0.mk (below_step (bw HB.out) hb); replace HO371 := n0_; have HO375 := n1_; replace HB := n2_; clear n0_ n1_ n2_; clear hb ho10; obtain ⟨Ao11, co11, eo11⟩ := Kd.R_slice HO375.out; subst eo11) | ((with_reducible refine gate_callee (f := 36) rfl ?_); refine goesL_ (some 22) rfl rfl Try.func36 (by kernel_rfl) rfl #[.slice A0 l0.length c0, .slice Ao11 y373.length co11, .int .i64 a1] rfl (by (try simp only [mA_]); first | done | rfl | (simp only [List.length_drop, List.length_take]; rfl)) ?_; (with_reducible refine (spec_l5Bound.calls k _ _ l0 _ _ y373 a1 t376 _ ?side1 ?side2 ?side3 ?side4 A6.out).mono ?_); (case side1 => first | exact bC HR0.out HB.out | exact Kd.C_below HR0.out HB.out); (case side2 => exact HC0.out); (case side3 => repeat (first | exact (Kd.R_reads' HO375.out).2.2 | (with_reducible refine Kd.C_alloc ?_ _) | (with_reducible refine Kd.C_drewN ?_ _) | (with_reducible refine Kd.C_drew ?_))); (case side4 => exact (Kd.R_reads' HO375.out).2.1); rintro e w12 ⟨rfl, hb⟩; refine ⟨_, rfl, ?_⟩; have n0_ := Aside0.mk (Kd.V_below (by (with_reducible repeat (first | apply Kd.V_alloc | apply Kd.V_drewN | apply Kd.V_drew)); exact HO371.out) hb); have n1_ := Aside0.mk (Kd.R_below (bR HO375.out) hb); have n2_ := Aside0.mk (below_step (bw HB.out) hb); replace HO371 := n0_; replace HO375 := n1_; replace HB := n2_; clear n0_ n1_ n2_; (try clear hb); (try clear hb2); (try clear hk); (try clear hi)))
 go_ret2
 exact ⟨by first | rfl | (simp [errW_none, errW_some] <;> rfl) | (simp [*, errW_none, errW_some] <;> rfl), bw HB.out⟩

/-! ### impl_isSplitObjective: function 38 -/
def impl_isSplitObjective.f (a0 : Int) : Option (Bool) := if a0 = 2 then (some true) else (some (a0 == 4))
set_option maxHeartbeats 8000000 in
set_option maxRecDepth 100000 in
theorem impl_isSplitObjective.calls (a0 : Int) (r : Bool) (w : World) (h : impl_isSplitObjective.f a0 = some r) :
  Calls Try.prog 38 #[.int .i64 a0] w fun e w' => e = .returned (.bool r) ∧ Drawn0 w w' := by
 have H : (if a0 = 2 then (some true) else (some (a0 == 4))) = some r := h
 clear h
 by_cases c2 : a0 = 2
 rotate_left
 ·rw [if_neg c2] at H
  have c2b0 : (a0 == 2) = false := beq_eq_false_iff_ne.mpr c2
  have c2b1 : (a0 != 2) = true := bne_iff_ne.mpr c2
  obtain rfl := Option.some.inj H
  go_enter Try.func38, Try.ntmps38
  go_wp2
  go_ret
  exact ⟨by first | rfl | (simp; done) | (simp [*]; done), by repeat (first | exact Drawn0.refl _ | apply Drawn0.step)⟩
 rw [if_pos c2] at H
 have c2b0 : (a0 == 2) = true := beq_iff_eq.mpr c2
 have c2b1 : (a0 != 2) = false := bne_eq_false_iff_eq.mpr c2
 clear c2
 obtain rfl := Option.some.inj H
 go_enter Try.func38, Try.ntmps38
 go_wp2
 go_ret
 exact ⟨by first | rfl | (simp; done) | (simp [*]; done), by repeat (first | exact Drawn0.refl _ | apply Drawn0.step)⟩

end Go.Proofs.Ytoagdnojoodloaa.X
