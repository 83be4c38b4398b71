-- Written by a program of this session (wip/gen/xp.py, over the kit's printer). Not trusted: Lean checks it.
import Derived.Test.YtcgbmfcnjgmnjaaX0
import Derived.Test.YtcgbmfcnjgmnjaaXf153
import Derived.Test.YtcgbmfcnjgmnjaaXf213
import Derived.Test.YtcgbmfcnjgmnjaaXf226
import Derived.Test.YtcgbmfcnjgmnjaaXf41
namespace Go.Proofs.Ytcgbmfcnjgmnjaa.X
open Go.RowKit Go.Proofs.YtcgbmfcnjgmnjaaW.PrintWords Go.Proofs.YtcgbmfcnjgmnjaaW.PrintLast Go.Proofs.YtcgbmfcnjgmnjaaW.PrintMore
attribute [local go_sem] max2_int min2_int max_two min_two max_three min_three max_four min_four   -- for this text's walks alone
set_option linter.unusedVariables false
set_option linter.unusedSimpArgs false

/-! ### spec_l5Two: function 163 -/
def spec_l5Two.f (k : Nat) (l0 : List (S38)) (a1 : Int) : Option (Bool) := (spec_l2Good.f k l0).bind fun t1250 => (if t1250 = true then (if a1 = 2 then (some true) else (some (a1 == 4))) else (some false))
theorem spec_l5Two.mono : ∀ a0 a1 k, LeO (spec_l5Two.f k a0 a1) (spec_l5Two.f (k + 1) a0 a1) := by
 intro a0 a1 k
 unfold spec_l5Two.f
 repeat' first
   | (with_reducible exact spec_l2Good.mono _ _)
   | (with_reducible exact LeO.refl _)
   | (with_reducible exact LeO.none _)
   | (with_reducible refine LeO.ite ?_ ?_)
   | (with_reducible refine LeO.bind ?_ (fun _ => ?_))
   | exact spec_l2Good.mono _ _
   | exact LeO.none _
   | refine LeO.ite ?_ ?_
   | refine LeO.bind ?_ (fun _ => ?_)
set_option maxHeartbeats 8000000 in
set_option maxRecDepth 100000 in
theorem spec_l5Two.calls (k : Nat) (A0 : Option Addr) (c0 : Nat) (l0 : List (S38)) (a1 : Int) (r : Bool) (w : World) (hr0 : Kd.C k38 w A0 l0.length l0) (hc0 : l0.length ≤ c0) (h : spec_l5Two.f k l0 a1 = some r) :
  Calls Try.prog 163 #[.slice A0 l0.length c0, .int .i64 a1] w fun e w' => e = .returned (.bool r) ∧ Below w.heap.size w w' := by
 have HR0 := Aside0.mk hr0
 have HC0 := Aside0.mk hc0
 clear hr0 hc0
 have HB := Aside0.mk (Below.refl w.heap.size w)
 have H : ((spec_l2Good.f k l0).bind fun t1250 => (if t1250 = true then (if a1 = 2 then (some true) else (some (a1 == 4))) else (some false))) = some r := h
 clear h
 replace H := Option.bind_eq_some_iff.mp H
 obtain ⟨t1250, A30, H⟩ := H
 replace H : (if t1250 = true then (if a1 = 2 then (some true) else (some (a1 == 4))) else (some false)) = some r := H
 have A3 := Aside0.mk A30
 clear A30
 by_cases c4 : t1250 = true
 ·subst c4
  have H1 : (if a1 = 2 then (some true) else (some (a1 == 4))) = some r := by rw [if_pos rfl] at H; exact H
  clear H
  have H := H1
  clear H1
  by_cases c5 : a1 = 2
  ·rw [if_pos c5] at H
   have c5b0 : (a1 == 2) = true := beq_iff_eq.mpr c5
   have c5b1 : (a1 != 2) = false := bne_eq_false_iff_eq.mpr c5
   clear c5
   obtain rfl := Option.some.inj H
   go_enter Try.func163, Try.ntmps163
   go_wp2_with (first | ((with_reducible refine gate_callee (f := 114) rfl ?_); refine goesL_ (some 6) rfl rfl Try.func114 (by kernel_rfl) rfl #[.slice A0 l0.length c0] rfl (by (try simp only [List.map_toArray, List.map_cons, List.map_nil]); first | done | rfl | (simp only [List.length_drop, List.length_take]; rfl)) ?_; (with_reducible refine (spec_l2Good.calls k _ _ l0 true _ ?side1 ?side2 A3.out).mono ?_); (case side1 => repeat (first | exact HR0.out | (with_reducible refine Kd.C_alloc ?_ _) | (with_reducible refine Kd.C_drewN ?_ _) | (with_reducible refine Kd.C_drew ?_))); (case side2 => exact HC0.out); rintro e w6 ⟨rfl, hb⟩; refine ⟨_, rfl, ?_⟩; have n0_ := Aside0.mk (below_step (by repeat (first | (with_reducible first | exact HB.out | apply below_alloc | apply pw_below_drewN | apply below_drew1) | exact HB.out)) hb); clear HB; have HB := n0_; clear n0_; (try clear hb); (try clear hb2); (try clear hk); (try clear hi)))
   go_ret
   exact ⟨by first | rfl | (simp [errW_none, errW_some] <;> rfl) | (simp [*, errW_none, errW_some] <;> rfl), by repeat (first | (with_reducible first | exact HB.out | apply below_alloc | apply pw_below_drewN | apply below_drew1) | exact HB.out)⟩
  ·rw [if_neg c5] at H
   have c5b0 : (a1 == 2) = false := beq_eq_false_iff_ne.mpr c5
   have c5b1 : (a1 != 2) = true := bne_iff_ne.mpr c5
   obtain rfl := Option.some.inj H
   go_enter Try.func163, Try.ntmps163
   go_wp2_with (first | ((with_reducible refine gate_callee (f := 114) rfl ?_); refine goesL_ (some 6) rfl rfl Try.func114 (by kernel_rfl) rfl #[.slice A0 l0.length c0] rfl (by (try simp only [List.map_toArray, List.map_cons, List.map_nil]); first | done | rfl | (simp only [List.length_drop, List.length_take]; rfl)) ?_; (with_reducible refine (spec_l2Good.calls k _ _ l0 true _ ?side1 ?side2 A3.out).mono ?_); (case side1 => repeat (first | exact HR0.out | (with_reducible refine Kd.C_alloc ?_ _) | (with_reducible refine Kd.C_drewN ?_ _) | (with_reducible refine Kd.C_drew ?_))); (case side2 => exact HC0.out); rintro e w7 ⟨rfl, hb⟩; refine ⟨_, rfl, ?_⟩; have n0_ := Aside0.mk (below_step (by repeat (first | (with_reducible first | exact HB.out | apply below_alloc | apply pw_below_drewN | apply below_drew1) | exact HB.out)) hb); clear HB; have HB := n0_; clear n0_; (try clear hb); (try clear hb2); (try clear hk); (try clear hi)))
   go_ret
   exact ⟨by first | rfl | (simp [errW_none, errW_some] <;> rfl) | (simp [*, errW_none, errW_some] <;> rfl), by repeat (first | (with_reducible first | exact HB.out | apply below_alloc | apply pw_below_drewN | apply below_drew1) | exact HB.out)⟩
 ·replace c4 := Bool.eq_false_iff.mpr c4
  subst c4
  have H1 : (some false) = some r := by rw [if_neg (show ¬ (false = true) by decide)] at H; exact H
  clear H
  have H := H1
  clear H1
  obtain rfl := Option.some.inj H
  go_enter Try.func163, Try.ntmps163
  go_wp2_with (first | ((with_reducible refine gate_callee (f := 114) rfl ?_); refine goesL_ (some 6) rfl rfl Try.func114 (by kernel_rfl) rfl #[.slice A0 l0.length c0] rfl (by (try simp only [List.map_toArray, List.map_cons, List.map_nil]); first | done | rfl | (simp only [List.length_drop, List.length_take]; rfl)) ?_; (with_reducible refine (spec_l2Good.calls k _ _ l0 false _ ?side1 ?side2 A3.out).mono ?_); (case side1 => repeat (first | exact HR0.out | (with_reducible refine Kd.C_alloc ?_ _) | (with_reducible refine Kd.C_drewN ?_ _) | (with_reducible refine Kd.C_drew ?_))); (case side2 => exact HC0.out); rintro e w8 ⟨rfl, hb⟩; refine ⟨_, rfl, ?_⟩; have n0_ := Aside0.mk (below_step (by repeat (first | (with_reducible first | exact HB.out | apply below_alloc | apply pw_below_drewN | apply below_drew1) | exact HB.out)) hb); clear HB; have HB := n0_; clear n0_; (try clear hb); (try clear hb2); (try clear hk); (try clear hi)))
  go_ret
  exact ⟨by first | rfl | (simp [errW_none, errW_some] <;> rfl) | (simp [*, errW_none, errW_some] <;> rfl), by repeat (first | (with_reducible first | exact HB.out | apply below_alloc | apply pw_below_drewN | apply below_drew1) | exact HB.out)⟩

/-! ### spec_l5Rests: function 249 -/
def spec_l5Rests.l0 : Nat → List (S38) → List Int → Int → Option (List Int)
 | 0, _, _, _ => none
 | k + 1, x0, x3, x4 => if x4 < (x0.length : Int) then (if 0 ≤ x4 then (if x3.length < 17592186044416 then (spec_l5Rests.l0 k x0 (x3 ++ [(rd_T38 x0 x4).f0]) (wrap64 (x4 + 1))) else (none)) else (none)) else (some x3)
def spec_l5Rests.f (k : Nat) (l0 : List (S38)) : Option (List Int) := spec_l5Rests.l0 k l0 (([] : List Int)) 0
theorem spec_l5Rests.mono_l : ∀ k, (∀ y0 y1 y2, LeO (spec_l5Rests.l0 k y0 y1 y2) (spec_l5Rests.l0 (k + 1) y0 y1 y2))
 | 0 => fun _ _ _ r h => by simp [spec_l5Rests.l0] at h
 | k + 1 => by
  have ih0 := spec_l5Rests.mono_l k
  ·intro y0 y1 y2
   unfold spec_l5Rests.l0
   repeat' first
   | (with_reducible exact ih0 _ _ _)
   | (with_reducible exact LeO.refl _)
   | (with_reducible exact LeO.none _)
   | (with_reducible refine LeO.ite ?_ ?_)
   | (with_reducible refine LeO.bind ?_ (fun _ => ?_))
   | exact ih0 _ _ _
   | exact LeO.none _
   | refine LeO.ite ?_ ?_
   | refine LeO.bind ?_ (fun _ => ?_)
theorem spec_l5Rests.mono : ∀ a0 k, LeO (spec_l5Rests.f k a0) (spec_l5Rests.f (k + 1) a0) := by
 intro a0 k
 have ih0 := spec_l5Rests.mono_l k
 unfold spec_l5Rests.f
 repeat' first
   | (with_reducible exact ih0 _ _ _)
   | (with_reducible exact LeO.refl _)
   | (with_reducible exact LeO.none _)
   | (with_reducible refine LeO.ite ?_ ?_)
   | (with_reducible refine LeO.bind ?_ (fun _ => ?_))
   | exact ih0 _ _ _
   | exact LeO.none _
   | refine LeO.ite ?_ ?_
   | refine LeO.bind ?_ (fun _ => ?_)
set_option maxHeartbeats 8000000 in
set_option maxRecDepth 100000 in
theorem spec_l5Rests.calls (k : Nat) (A0 : Option Addr) (c0 : Nat) (l0 : List (S38)) (r : List Int) (w : World) (hr0 : Kd.C k38 w A0 l0.length l0) (hc0 : l0.length ≤ c0) (h : spec_l5Rests.f k l0 = some r) :
  Calls Try.prog 249 #[.slice A0 l0.length c0] w fun e w' => ∃ v0_ : Value, e = .returned (v0_) ∧ Kd.R (Kd.int .i64) 3 w' w.heap.size (fun _ => True) v0_ r ∧ Below w.heap.size w w' := by
 have HR0 := Aside0.mk hr0
 have HC0 := Aside0.mk hc0
 clear hr0 hc0
 have HB := Aside0.mk (Below.refl w.heap.size w)
 have H : (spec_l5Rests.l0 k l0 (([] : List Int)) 0) = some r := h
 clear h
 obtain ⟨y1291, hy1291⟩ : ∃ y_ : List Int, y_ = (([] : List Int)) := ⟨_, rfl⟩
 replace H : (spec_l5Rests.l0 k l0 y1291 0) = some r := by first | (rw [hy1291]; with_reducible exact H) | (have H2_ := (Option.bind_some _ _).symm.trans H; rw [hy1291]; with_reducible exact H2_) | (have H2_ := (Option.bind_some _ _).symm.trans H; with_reducible exact H2_) | with_reducible exact H | (rw [hy1291]; exact H) | exact H
 have Ny1291 := Aside0.mk hy1291
 clear hy1291
 have H' := Aside0.mk H
 clear H
 go_enter Try.func249, Try.ntmps249
 go_wp2_with (first | ((with_reducible refine gate_dst (N := 5) rfl ?_); refine Kd.R_lit (Kd.int .i64) _ 3 ?hg (N := 5) ?hd (xs := ([] : List Int)) (inner := []) (ok := fun _ => True) (okp := fun _ => True) ?hr ?hp (fun _ hk => hk) trivial (Below.refl _ _) (Nat.le_refl _) (by simp) ?_; (case hd => rfl); (case hg => rfl); (case hr => first | (go_simp; done) | (go_simp; rfl)); (case hp => exact (Reps.none _ _)); intro v1292 w2 ho3 hb hg_ hnew_; clear hg_ hnew_; (first | rw [← Ny1291.out] at ho3 | (simp only [Int.reduceToNat] at ho3; rw [← Ny1291.out] at ho3)); have n0_ := Aside0.mk (Kd.R_lower ho3 (below_size (by repeat (first | (with_reducible first | exact HB.out | apply below_alloc | apply pw_below_drewN | apply below_drew1) | exact HB.out)))); have n1_ := Aside0.mk (below_step (by repeat (first | (with_reducible first | exact HB.out | apply below_alloc | apply pw_below_drewN | apply below_drew1) | exact HB.out)) hb); clear HB; have HO1293 := n0_; have HB := n1_; clear n0_ n1_; clear hb ho3))
 go_loopg [3, 4] k (fun kq v3 v4 w' => ∃ (x3_1 : List Int) (x4_1 : Int), v4 = .int .i64 x4_1 ∧ Aside0 (spec_l5Rests.l0 kq l0 x3_1 x4_1 = some r) ∧ Aside0 (kq ≤ k) ∧ Aside0 (Kd.R (Kd.int .i64) 3 w' w.heap.size (fun _ => True) v3 x3_1) ∧ Aside0 (Below w.heap.size w w'))
 case atStart => exact ⟨(y1291), (0), (by first | rfl | (simp; done) | (simp [*]; done)), H', ⟨Nat.le_refl _⟩, ⟨by (with_reducible repeat (first | apply Kd.R_alloc | apply Kd.R_drewN | apply Kd.R_drew)); exact HO1293.out⟩, ⟨by repeat (first | (with_reducible first | exact HB.out | apply below_alloc | apply pw_below_drewN | apply below_drew1) | exact HB.out)⟩⟩
 case round =>
  clear H'
  try clear c2
  try clear p2
  obtain ⟨x3_1, x4_1, rfl, HA, HK1, HO_3, HB⟩ := hrel
  cases gk with
  | zero => exact absurd HA.out (by simp [spec_l5Rests.l0])
  | succ k1 =>
   have H := HA.out
   clear HA
   simp only [spec_l5Rests.l0] at H
   by_cases c4 : x4_1 < (l0.length : Int)
   ·rw [if_pos c4] at H
    have c4b0 : decide (x4_1 < (l0.length : Int)) = true := decide_eq_true c4
    clear c4
    by_cases c5 : 0 ≤ x4_1
    ·rw [if_pos c5] at H
     have c5b0 : decide (0 ≤ x4_1) = true := decide_eq_true c5
     clear c5
     by_cases c6 : x3_1.length < 17592186044416
     ·rw [if_pos c6] at H
      have LMc6 := Aside0.mk c6
      clear c6
      obtain ⟨y1295, hy1295⟩ : ∃ y_ : List Int, y_ = (x3_1 ++ [(rd_T38 l0 x4_1).f0]) := ⟨_, rfl⟩
      replace H : (spec_l5Rests.l0 k1 l0 y1295 (wrap64 (x4_1 + 1))) = some r := by first | (rw [hy1295]; with_reducible exact H) | (have H2_ := (Option.bind_some _ _).symm.trans H; rw [hy1295]; with_reducible exact H2_) | (have H2_ := (Option.bind_some _ _).symm.trans H; with_reducible exact H2_) | with_reducible exact H | (rw [hy1295]; exact H) | exact H
      have Ny1295 := Aside0.mk hy1295
      clear hy1295
      have H' := Aside0.mk H
      clear H
      have p1294 : 0 ≤ (x4_1 : Int) := of_decide_eq_true (by first | (with_reducible assumption) | assumption)
      have q1294 : x4_1 < (l0.length : Int) := of_decide_eq_true (by first | (with_reducible assumption) | assumption)
      obtain ⟨ad1294, e1294, hx1294_0, hx1294_1, hx1294_2, hx1294_3⟩ := at_T38 HR0.out x4_1 p1294 q1294
      cases e1294
      replace hx1294_0 := (HB.out.cell (World.block_lt_of_cell? w _ hx1294_0)).trans hx1294_0
      replace hx1294_1 := (HB.out.cell (World.block_lt_of_cell? w _ hx1294_1)).trans hx1294_1
      replace hx1294_2 := (HB.out.cell (World.block_lt_of_cell? w _ hx1294_2)).trans hx1294_2
      replace hx1294_3 := (HB.out.cell (World.block_lt_of_cell? w _ hx1294_3)).trans hx1294_3
      replace p1294 := eq_true p1294
      replace q1294 := eq_true q1294
      go_wp2_with (first | ((with_reducible refine gate_builtin (b := .append) (xs := #[.tmp 12, .tmp 18]) rfl ?_); at_builtin; refine Kd.R_append (Kd.int .i64) (w0 := w) w.heap.size rfl (.tmp 12) (.tmp 18) 25 3 (.int .i64 0) 8 rfl Try.underlying25 info3 rfl (by decide) (by omega) u3 x3_1 ((rd_T38 l0 x4_1).f0) [.int .i64 ((rd_T38 l0 x4_1).f0)] (fun _ => True) (fun _ => False) rfl rfl ?aP (fun _ hk => hk.elim) ?aF ?aO ?aB ?aS ?aL ?_; (case aP => exact rfl); (case aB => exact (by repeat (first | (with_reducible first | exact HB.out | apply below_alloc | apply pw_below_drewN | apply below_drew1) | exact HB.out))); (case aF => exact (fun _ _ => trivial)); (case aO => exact (by (with_reducible repeat (first | apply Kd.R_alloc | apply Kd.R_drewN | apply Kd.R_drew)); exact HO_3.out)); (case aS => exact (below_size (by repeat (first | (with_reducible first | exact HB.out | apply below_alloc | apply pw_below_drewN | apply below_drew1) | exact HB.out)))); (case aL => have := LMc6.out; omega); intro v1296 w7 ho hb hg hat; rw [← Ny1295.out] at ho; have n0_ := Aside0.mk (hb); have n1_ := Aside0.mk (ho); clear HB; clear HO_3; have HB := n0_; have HO1297 := n1_; clear n0_ n1_; clear ho hb hg hat))
      go_roundg k1
      case measure => have := HK1.out; omega
      case rel => exact ⟨(y1295), (wrap64 (x4_1 + 1)), (by first | rfl | (simp; done) | (simp [*]; done)), H', ⟨by have := HK1.out; omega⟩, ⟨by (with_reducible repeat (first | apply Kd.R_alloc | apply Kd.R_drewN | apply Kd.R_drew)); exact HO1297.out⟩, ⟨by repeat (first | (with_reducible first | exact HB.out | apply below_alloc | apply pw_below_drewN | apply below_drew1) | exact HB.out)⟩⟩
     ·rw [if_neg c6] at H
      exact absurd H (by simp)
    ·rw [if_neg c5] at H
     exact absurd H (by simp)
   ·rw [if_neg c4] at H
    have c4b0 : decide (x4_1 < (l0.length : Int)) = false := decide_eq_false c4
    clear c4
    obtain rfl := Option.some.inj H
    go_wp2
    go_ret
    exact ⟨_, by first | rfl | (simp [errW_none, errW_some] <;> rfl) | (simp [*, errW_none, errW_some] <;> rfl), by (with_reducible repeat (first | apply Kd.R_alloc | apply Kd.R_drewN | apply Kd.R_drew)); exact HO_3.out, by repeat (first | (with_reducible first | exact HB.out | apply below_alloc | apply pw_below_drewN | apply below_drew1) | exact HB.out)⟩

/-! ### spec_l5Pick: function 297 -/
mutual
def spec_l5Pick.l0 : Nat → List (S38) → List Int → Int → Int → Int → Int → Option (Int)
 | 0, _, _, _, _, _, _ => none
 | k + 1, x0, x1, x2, x3, x9, x10 => if x10 < (x0.length : Int) then (if 0 ≤ x10 then (if x10 < (x1.length : Int) then (if (rd x1 x10) = 0 then (spec_l5Pick.j1 k x0 x1 x2 x3 x9 x10 true) else (spec_l5Pick.j1 k x0 x1 x2 x3 x9 x10 (decide (((rd_T38 x0 x10).f2) > x2)))) else (none)) else (none)) else (some x9)
def spec_l5Pick.j1 : Nat → List (S38) → List Int → Int → Int → Int → Int → Bool → Option (Int)
 | 0, _, _, _, _, _, _, _ => none
 | k + 1, x0, x1, x2, x3, x9, x10, x30 => if x30 = true then (spec_l5Pick.l0 k x0 x1 x2 x3 x9 (wrap64 (x10 + 1))) else (if x9 < 0 then (spec_l5Pick.l0 k x0 x1 x2 x3 x10 (wrap64 (x10 + 1))) else (if x3 = 2 then (if 0 ≤ x10 then (if x10 < (x1.length : Int) then (if 0 ≤ x9 then (if x9 < (x1.length : Int) then (if (rd x1 x10) < (rd x1 x9) then (spec_l5Pick.l0 k x0 x1 x2 x3 x10 (wrap64 (x10 + 1))) else (if x3 = 4 then (if x10 < (x0.length : Int) then (if x9 < (x0.length : Int) then (if ((rd_T38 x0 x10).f3) < ((rd_T38 x0 x9).f3) then (spec_l5Pick.l0 k x0 x1 x2 x3 x10 (wrap64 (x10 + 1))) else (spec_l5Pick.l0 k x0 x1 x2 x3 x9 (wrap64 (x10 + 1)))) else (none)) else (none)) else (spec_l5Pick.l0 k x0 x1 x2 x3 x9 (wrap64 (x10 + 1))))) else (none)) else (none)) else (none)) else (none)) else (if x3 = 4 then (if 0 ≤ x10 then (if x10 < (x0.length : Int) then (if 0 ≤ x9 then (if x9 < (x0.length : Int) then (if ((rd_T38 x0 x10).f3) < ((rd_T38 x0 x9).f3) then (spec_l5Pick.l0 k x0 x1 x2 x3 x10 (wrap64 (x10 + 1))) else (spec_l5Pick.l0 k x0 x1 x2 x3 x9 (wrap64 (x10 + 1)))) else (none)) else (none)) else (none)) else (none)) else (spec_l5Pick.l0 k x0 x1 x2 x3 x9 (wrap64 (x10 + 1))))))
end
def spec_l5Pick.f (k : Nat) (l0 : List (S38)) (l1 : List Int) (a2 : Int) (a3 : Int) : Option (Int) := spec_l5Pick.l0 k l0 l1 a2 a3 (-1) 0
theorem spec_l5Pick.mono_l : ∀ k, (∀ y0 y1 y2 y3 y4 y5, LeO (spec_l5Pick.l0 k y0 y1 y2 y3 y4 y5) (spec_l5Pick.l0 (k + 1) y0 y1 y2 y3 y4 y5)) ∧ (∀ y0 y1 y2 y3 y4 y5 y6, LeO (spec_l5Pick.j1 k y0 y1 y2 y3 y4 y5 y6) (spec_l5Pick.j1 (k + 1) y0 y1 y2 y3 y4 y5 y6))
 | 0 => ⟨fun _ _ _ _ _ _ r h => by simp [spec_l5Pick.l0] at h, fun _ _ _ _ _ _ _ r h => by simp [spec_l5Pick.j1] at h⟩
 | k + 1 => by
  obtain ⟨ih0, ih1⟩ := spec_l5Pick.mono_l k
  refine ⟨?_, ?_⟩
  ·intro y0 y1 y2 y3 y4 y5
   unfold spec_l5Pick.l0
   repeat' first
   | (with_reducible exact ih0 _ _ _ _ _ _)
   | (with_reducible exact ih1 _ _ _ _ _ _ _)
   | (with_reducible exact LeO.refl _)
   | (with_reducible exact LeO.none _)
   | (with_reducible refine LeO.ite ?_ ?_)
   | (with_reducible refine LeO.bind ?_ (fun _ => ?_))
   | exact ih0 _ _ _ _ _ _
   | exact ih1 _ _ _ _ _ _ _
   | exact LeO.none _
   | refine LeO.ite ?_ ?_
   | refine LeO.bind ?_ (fun _ => ?_)
  ·intro y0 y1 y2 y3 y4 y5 y6
   unfold spec_l5Pick.j1
   repeat' first
   | (with_reducible exact ih0 _ _ _ _ _ _)
   | (with_reducible exact ih1 _ _ _ _ _ _ _)
   | (with_reducible exact LeO.refl _)
   | (with_reducible exact LeO.none _)
   | (with_reducible refine LeO.ite ?_ ?_)
   | (with_reducible refine LeO.bind ?_ (fun _ => ?_))
   | exact ih0 _ _ _ _ _ _
   | exact ih1 _ _ _ _ _ _ _
   | exact LeO.none _
   | refine LeO.ite ?_ ?_
   | refine LeO.bind ?_ (fun _ => ?_)
theorem spec_l5Pick.mono : ∀ a0 a1 a2 a3 k, LeO (spec_l5Pick.f k a0 a1 a2 a3) (spec_l5Pick.f (k + 1) a0 a1 a2 a3) := by
 intro a0 a1 a2 a3 k
 obtain ⟨ih0, ih1⟩ := spec_l5Pick.mono_l k
 unfold spec_l5Pick.f
 repeat' first
   | (with_reducible exact ih0 _ _ _ _ _ _)
   | (with_reducible exact ih1 _ _ _ _ _ _ _)
   | (with_reducible exact LeO.refl _)
   | (with_reducible exact LeO.none _)
   | (with_reducible refine LeO.ite ?_ ?_)
   | (with_reducible refine LeO.bind ?_ (fun _ => ?_))
   | exact ih0 _ _ _ _ _ _
   | exact ih1 _ _ _ _ _ _ _
   | exact LeO.none _
   | refine LeO.ite ?_ ?_
   | refine LeO.bind ?_ (fun _ => ?_)
set_option maxHeartbeats 8000000 in
set_option maxRecDepth 100000 in
theorem spec_l5Pick.calls (k : Nat) (A0 : Option Addr) (c0 : Nat) (l0 : List (S38)) (A1 : Option Addr) (c1 : Nat) (l1 : List Int) (a2 : Int) (a3 : Int) (r : Int) (w : World) (hr0 : Kd.C k38 w A0 l0.length l0) (hc0 : l0.length ≤ c0) (hr1 : Kd.C (Kd.int .i64) w A1 l1.length l1) (hc1 : l1.length ≤ c1) (h : spec_l5Pick.f k l0 l1 a2 a3 = some r) :
  Calls Try.prog 297 #[.slice A0 l0.length c0, .slice A1 l1.length c1, .int .i64 a2, .int .i64 a3] w fun e w' => e = .returned (.int .i64 r) ∧ Drawn0 w w' := by
 have HR0 := Aside0.mk hr0
 have HC0 := Aside0.mk hc0
 clear hr0 hc0
 have HR1 := Aside0.mk hr1
 have HC1 := Aside0.mk hc1
 clear hr1 hc1
 have H : (spec_l5Pick.l0 k l0 l1 a2 a3 (-1) 0) = some r := h
 clear h
 have H' := Aside0.mk H
 clear H
 go_enter Try.func297, Try.ntmps297
 go_wp2
 repeat (go_quiet (fail); try go_wp2)
 go_loopg [9, 10] k (fun kq v9 v10 w' => ∃ (x9_1 : Int) (x10_1 : Int), v9 = .int .i64 x9_1 ∧ v10 = .int .i64 x10_1 ∧ Aside0 (spec_l5Pick.l0 kq l0 l1 a2 a3 x9_1 x10_1 = some r) ∧ Aside0 (kq ≤ k) ∧ Drawn0 w w')
 case atStart => exact ⟨((-1)), (0), (by first | rfl | (simp; done) | (simp [*]; done)), (by first | rfl | (simp; done) | (simp [*]; done)), H', ⟨Nat.le_refl _⟩, by repeat (first | exact Drawn0.refl _ | apply Drawn0.step)⟩
 case round =>
  clear H'
  try clear c1
  try clear c2
  try clear p2
  obtain ⟨x9_1, x10_1, rfl, rfl, HA, HK1, ⟨m1, rfl⟩⟩ := hrel
  cases gk with
  | zero => exact absurd HA.out (by simp [spec_l5Pick.l0])
  | succ k1 =>
   have H := HA.out
   clear HA
   simp only [spec_l5Pick.l0] at H
   by_cases c5 : x10_1 < (l0.length : Int)
   ·rw [if_pos c5] at H
    have c5b0 : decide (x10_1 < (l0.length : Int)) = true := decide_eq_true c5
    clear c5
    have HC6 := Aside0.mk H
    clear H
    go_upto_region 5 with (fail)
    repeat (go_quiet (fail); go_upto_region 5 with (fail))
    go_cut [30] (fun v30 wc => ∃ (kq : Nat) (x30_5 : Bool), v30 = .bool x30_5 ∧ Aside0 (spec_l5Pick.j1 kq l0 l1 a2 a3 x9_1 x10_1 x30_5 = some r) ∧ Aside0 (kq ≤ k1) ∧ Drawn0 w wc)
    case first =>
     have H := HC6.out
     clear HC6
     by_cases c7 : 0 ≤ x10_1
     ·rw [if_pos c7] at H
      have c7b0 : decide (0 ≤ x10_1) = true := decide_eq_true c7
      clear c7
      (first | rw [c7b0] | (simp only [i64_w, i32_w]; rw [c7b0]) | skip)
      by_cases c8 : x10_1 < (l1.length : Int)
      ·rw [if_pos c8] at H
       have c8b0 : decide (x10_1 < (l1.length : Int)) = true := decide_eq_true c8
       clear c8
       by_cases c9 : (rd l1 x10_1) = 0
       ·rw [if_pos c9] at H
        have c9b0 : ((rd l1 x10_1) == 0) = true := beq_iff_eq.mpr c9
        have c9b1 : ((rd l1 x10_1) != 0) = false := bne_eq_false_iff_eq.mpr c9
        clear c9
        have H' := Aside0.mk H
        clear H
        have p1298 : 0 ≤ (x10_1 : Int) := of_decide_eq_true (by first | (with_reducible assumption) | assumption)
        have q1298 : x10_1 < (l1.length : Int) := of_decide_eq_true (by first | (with_reducible assumption) | assumption)
        obtain ⟨ad1298, e1298, hx1298_0⟩ := Kd.at_int HR1.out x10_1 p1298 q1298
        cases e1298
        replace p1298 := eq_true p1298
        replace q1298 := eq_true q1298
        go_wp2
        repeat (go_quiet (fail); try go_wp2)
        go_meet
        case rel => exact ⟨_, (true), (by first | rfl | (simp; done) | (simp [*]; done)), H', ⟨by have := HK1.out; first | omega | exact Nat.le_refl _⟩, by repeat (first | exact Drawn0.refl _ | apply Drawn0.step)⟩
       ·rw [if_neg c9] at H
        have c9b0 : ((rd l1 x10_1) == 0) = false := beq_eq_false_iff_ne.mpr c9
        have c9b1 : ((rd l1 x10_1) != 0) = true := bne_iff_ne.mpr c9
        have H' := Aside0.mk H
        clear H
        have p1298 : 0 ≤ (x10_1 : Int) := of_decide_eq_true (by first | (with_reducible assumption) | assumption)
        have q1298 : x10_1 < (l1.length : Int) := of_decide_eq_true (by first | (with_reducible assumption) | assumption)
        obtain ⟨ad1298, e1298, hx1298_0⟩ := Kd.at_int HR1.out x10_1 p1298 q1298
        cases e1298
        replace p1298 := eq_true p1298
        replace q1298 := eq_true q1298
        have p1299 : 0 ≤ (x10_1 : Int) := of_decide_eq_true (by first | (with_reducible assumption) | assumption)
        have q1299 : x10_1 < (l0.length : Int) := of_decide_eq_true (by first | (with_reducible assumption) | assumption)
        obtain ⟨ad1299, e1299, hx1299_0, hx1299_1, hx1299_2, hx1299_3⟩ := at_T38 HR0.out x10_1 p1299 q1299
        cases e1299
        replace p1299 := eq_true p1299
        replace q1299 := eq_true q1299
        go_wp2
        repeat (go_quiet (fail); try go_wp2)
        go_meet
        case rel => exact ⟨_, (decide (((rd_T38 l0 x10_1).f2) > a2)), (by first | rfl | (simp; done) | (simp [*]; done)), H', ⟨by have := HK1.out; first | omega | exact Nat.le_refl _⟩, by repeat (first | exact Drawn0.refl _ | apply Drawn0.step)⟩
      ·rw [if_neg c8] at H
       exact absurd H (by simp)
     ·rw [if_neg c7] at H
      exact absurd H (by simp)
    case rest =>
     clear HC6
     try clear c1
     try clear p1
     try clear q1
     try clear hx1
     try clear c2
     try clear p2
     try clear c5
     try clear c5b0
     try clear c7
     try clear c7b0
     try clear c8
     try clear c8b0
     try clear c9
     try clear c9b0
     try clear c9b1
     try clear hx1298_0
     try clear hx1299_0
     try clear hx1299_1
     try clear hx1299_2
     try clear hx1299_3
     try clear p1298
     try clear p1299
     try clear p2
     try clear q1298
     try clear q1299
     obtain ⟨kq, x30_5, rfl, HA, HJ5, ⟨mc5, rfl⟩⟩ := hcut
     cases kq with
     | zero => exact absurd HA.out (by simp [spec_l5Pick.j1])
     | succ kj5 =>
      have H := HA.out
      clear HA
      simp only [spec_l5Pick.j1] at H
      by_cases c10 : x30_5 = true
      ·subst c10
       have H1 : (spec_l5Pick.l0 kj5 l0 l1 a2 a3 x9_1 (wrap64 (x10_1 + 1))) = some r := by rw [if_pos rfl] at H; exact H
       clear H
       have H := H1
       clear H1
       have H' := Aside0.mk H
       clear H
       go_wp2
       repeat (go_quiet (fail); try go_wp2)
       go_roundg kj5
       case measure => have := HK1.out; have := HJ5.out; omega
       case rel => exact ⟨(x9_1), (wrap64 (x10_1 + 1)), (by first | rfl | (simp; done) | (simp [*]; done)), (by first | rfl | (simp; done) | (simp [*]; done)), H', ⟨by have := HK1.out; have := HJ5.out; omega⟩, by repeat (first | exact Drawn0.refl _ | apply Drawn0.step)⟩
      ·replace c10 := Bool.eq_false_iff.mpr c10
       subst c10
       have H1 : (if x9_1 < 0 then (spec_l5Pick.l0 kj5 l0 l1 a2 a3 x10_1 (wrap64 (x10_1 + 1))) else (if a3 = 2 then (if 0 ≤ x10_1 then (if x10_1 < (l1.length : Int) then (if 0 ≤ x9_1 then (if x9_1 < (l1.length : Int) then (if (rd l1 x10_1) < (rd l1 x9_1) then (spec_l5Pick.l0 kj5 l0 l1 a2 a3 x10_1 (wrap64 (x10_1 + 1))) else (if a3 = 4 then (if x10_1 < (l0.length : Int) then (if x9_1 < (l0.length : Int) then (if ((rd_T38 l0 x10_1).f3) < ((rd_T38 l0 x9_1).f3) then (spec_l5Pick.l0 kj5 l0 l1 a2 a3 x10_1 (wrap64 (x10_1 + 1))) else (spec_l5Pick.l0 kj5 l0 l1 a2 a3 x9_1 (wrap64 (x10_1 + 1)))) else (none)) else (none)) else (spec_l5Pick.l0 kj5 l0 l1 a2 a3 x9_1 (wrap64 (x10_1 + 1))))) else (none)) else (none)) else (none)) else (none)) else (if a3 = 4 then (if 0 ≤ x10_1 then (if x10_1 < (l0.length : Int) then (if 0 ≤ x9_1 then (if x9_1 < (l0.length : Int) then (if ((rd_T38 l0 x10_1).f3) < ((rd_T38 l0 x9_1).f3) then (spec_l5Pick.l0 kj5 l0 l1 a2 a3 x10_1 (wrap64 (x10_1 + 1))) else (spec_l5Pick.l0 kj5 l0 l1 a2 a3 x9_1 (wrap64 (x10_1 + 1)))) else (none)) else (none)) else (none)) else (none)) else (spec_l5Pick.l0 kj5 l0 l1 a2 a3 x9_1 (wrap64 (x10_1 + 1)))))) = some r := by rw [if_neg (show ¬ (false = true) by decide)] at H; exact H
       clear H
       have H := H1
       clear H1
       by_cases c11 : x9_1 < 0
       ·rw [if_pos c11] at H
        have c11b0 : decide (x9_1 < 0) = true := decide_eq_true c11
        clear c11
        have H' := Aside0.mk H
        clear H
        go_wp2
        repeat (go_quiet (fail); try go_wp2)
        go_roundg kj5
        case measure => have := HK1.out; have := HJ5.out; omega
        case rel => exact ⟨(x10_1), (wrap64 (x10_1 + 1)), (by first | rfl | (simp; done) | (simp [*]; done)), (by first | rfl | (simp; done) | (simp [*]; done)), H', ⟨by have := HK1.out; have := HJ5.out; omega⟩, by repeat (first | exact Drawn0.refl _ | apply Drawn0.step)⟩
       ·rw [if_neg c11] at H
        have c11b0 : decide (x9_1 < 0) = false := decide_eq_false c11
        clear c11
        by_cases c12 : a3 = 2
        ·rw [if_pos c12] at H
         have c12b0 : (a3 == 2) = true := beq_iff_eq.mpr c12
         have c12b1 : (a3 != 2) = false := bne_eq_false_iff_eq.mpr c12
         clear c12
         by_cases c13 : 0 ≤ x10_1
         ·rw [if_pos c13] at H
          have c13b0 : decide (0 ≤ x10_1) = true := decide_eq_true c13
          clear c13
          by_cases c14 : x10_1 < (l1.length : Int)
          ·rw [if_pos c14] at H
           have c14b0 : decide (x10_1 < (l1.length : Int)) = true := decide_eq_true c14
           clear c14
           by_cases c15 : 0 ≤ x9_1
           ·rw [if_pos c15] at H
            have c15b0 : decide (0 ≤ x9_1) = true := decide_eq_true c15
            clear c15
            by_cases c16 : x9_1 < (l1.length : Int)
            ·rw [if_pos c16] at H
             have c16b0 : decide (x9_1 < (l1.length : Int)) = true := decide_eq_true c16
             clear c16
             by_cases c17 : (rd l1 x10_1) < (rd l1 x9_1)
             ·rw [if_pos c17] at H
              have c17b0 : decide ((rd l1 x10_1) < (rd l1 x9_1)) = true := decide_eq_true c17
              clear c17
              have H' := Aside0.mk H
              clear H
              have p1300 : 0 ≤ (x10_1 : Int) := of_decide_eq_true (by first | (with_reducible assumption) | assumption)
              have q1300 : x10_1 < (l1.length : Int) := of_decide_eq_true (by first | (with_reducible assumption) | assumption)
              obtain ⟨ad1300, e1300, hx1300_0⟩ := Kd.at_int HR1.out x10_1 p1300 q1300
              cases e1300
              replace p1300 := eq_true p1300
              replace q1300 := eq_true q1300
              have p1301 : 0 ≤ (x9_1 : Int) := of_decide_eq_true (by first | (with_reducible assumption) | assumption)
              have q1301 : x9_1 < (l1.length : Int) := of_decide_eq_true (by first | (with_reducible assumption) | assumption)
              obtain ⟨ad1301, e1301, hx1301_0⟩ := Kd.at_int HR1.out x9_1 p1301 q1301
              obtain rfl : ad1300 = ad1301 := (by injection e1301)
              replace p1301 := eq_true p1301
              replace q1301 := eq_true q1301
              go_wp2
              repeat (go_quiet (fail); try go_wp2)
              go_roundg kj5
              case measure => have := HK1.out; have := HJ5.out; omega
              case rel => exact ⟨(x10_1), (wrap64 (x10_1 + 1)), (by first | rfl | (simp; done) | (simp [*]; done)), (by first | rfl | (simp; done) | (simp [*]; done)), H', ⟨by have := HK1.out; have := HJ5.out; omega⟩, by repeat (first | exact Drawn0.refl _ | apply Drawn0.step)⟩
             ·rw [if_neg c17] at H
              have c17b0 : decide ((rd l1 x10_1) < (rd l1 x9_1)) = false := decide_eq_false c17
              clear c17
              by_cases c18 : a3 = 4
              ·rw [if_pos c18] at H
               have c18b0 : (a3 == 4) = true := beq_iff_eq.mpr c18
               have c18b1 : (a3 != 4) = false := bne_eq_false_iff_eq.mpr c18
               clear c18
               by_cases c19 : x10_1 < (l0.length : Int)
               ·rw [if_pos c19] at H
                have c19b0 : decide (x10_1 < (l0.length : Int)) = true := decide_eq_true c19
                clear c19
                by_cases c20 : x9_1 < (l0.length : Int)
                ·rw [if_pos c20] at H
                 have c20b0 : decide (x9_1 < (l0.length : Int)) = true := decide_eq_true c20
                 clear c20
                 by_cases c21 : ((rd_T38 l0 x10_1).f3) < ((rd_T38 l0 x9_1).f3)
                 ·rw [if_pos c21] at H
                  have c21b0 : decide (((rd_T38 l0 x10_1).f3) < ((rd_T38 l0 x9_1).f3)) = true := decide_eq_true c21
                  clear c21
                  have H' := Aside0.mk H
                  clear H
                  have p1300 : 0 ≤ (x10_1 : Int) := of_decide_eq_true (by first | (with_reducible assumption) | assumption)
                  have q1300 : x10_1 < (l1.length : Int) := of_decide_eq_true (by first | (with_reducible assumption) | assumption)
                  obtain ⟨ad1300, e1300, hx1300_0⟩ := Kd.at_int HR1.out x10_1 p1300 q1300
                  cases e1300
                  replace p1300 := eq_true p1300
                  replace q1300 := eq_true q1300
                  have p1301 : 0 ≤ (x9_1 : Int) := of_decide_eq_true (by first | (with_reducible assumption) | assumption)
                  have q1301 : x9_1 < (l1.length : Int) := of_decide_eq_true (by first | (with_reducible assumption) | assumption)
                  obtain ⟨ad1301, e1301, hx1301_0⟩ := Kd.at_int HR1.out x9_1 p1301 q1301
                  obtain rfl : ad1300 = ad1301 := (by injection e1301)
                  replace p1301 := eq_true p1301
                  replace q1301 := eq_true q1301
                  have p1302 : 0 ≤ (x10_1 : Int) := of_decide_eq_true (by first | (with_reducible assumption) | assumption)
                  have q1302 : x10_1 < (l0.length : Int) := of_decide_eq_true (by first | (with_reducible assumption) | assumption)
                  obtain ⟨ad1302, e1302, hx1302_0, hx1302_1, hx1302_2, hx1302_3⟩ := at_T38 HR0.out x10_1 p1302 q1302
                  cases e1302
                  replace p1302 := eq_true p1302
                  replace q1302 := eq_true q1302
                  have p1303 : 0 ≤ (x9_1 : Int) := of_decide_eq_true (by first | (with_reducible assumption) | assumption)
                  have q1303 : x9_1 < (l0.length : Int) := of_decide_eq_true (by first | (with_reducible assumption) | assumption)
                  obtain ⟨ad1303, e1303, hx1303_0, hx1303_1, hx1303_2, hx1303_3⟩ := at_T38 HR0.out x9_1 p1303 q1303
                  obtain rfl : ad1302 = ad1303 := (by injection e1303)
                  replace p1303 := eq_true p1303
                  replace q1303 := eq_true q1303
                  go_wp2
                  repeat (go_quiet (fail); try go_wp2)
                  go_roundg kj5
                  case measure => have := HK1.out; have := HJ5.out; omega
                  case rel => exact ⟨(x10_1), (wrap64 (x10_1 + 1)), (by first | rfl | (simp; done) | (simp [*]; done)), (by first | rfl | (simp; done) | (simp [*]; done)), H', ⟨by have := HK1.out; have := HJ5.out; omega⟩, by repeat (first | exact Drawn0.refl _ | apply Drawn0.step)⟩
                 ·rw [if_neg c21] at H
                  have c21b0 : decide (((rd_T38 l0 x10_1).f3) < ((rd_T38 l0 x9_1).f3)) = false := decide_eq_false c21
                  clear c21
                  have H' := Aside0.mk H
                  clear H
                  have p1300 : 0 ≤ (x10_1 : Int) := of_decide_eq_true (by first | (with_reducible assumption) | assumption)
                  have q1300 : x10_1 < (l1.length : Int) := of_decide_eq_true (by first | (with_reducible assumption) | assumption)
                  obtain ⟨ad1300, e1300, hx1300_0⟩ := Kd.at_int HR1.out x10_1 p1300 q1300
                  cases e1300
                  replace p1300 := eq_true p1300
                  replace q1300 := eq_true q1300
                  have p1301 : 0 ≤ (x9_1 : Int) := of_decide_eq_true (by first | (with_reducible assumption) | assumption)
                  have q1301 : x9_1 < (l1.length : Int) := of_decide_eq_true (by first | (with_reducible assumption) | assumption)
                  obtain ⟨ad1301, e1301, hx1301_0⟩ := Kd.at_int HR1.out x9_1 p1301 q1301
                  obtain rfl : ad1300 = ad1301 := (by injection e1301)
                  replace p1301 := eq_true p1301
                  replace q1301 := eq_true q1301
                  have p1302 : 0 ≤ (x10_1 : Int) := of_decide_eq_true (by first | (with_reducible assumption) | assumption)
                  have q1302 : x10_1 < (l0.length : Int) := of_decide_eq_true (by first | (with_reducible assumption) | assumption)
                  obtain ⟨ad1302, e1302, hx1302_0, hx1302_1, hx1302_2, hx1302_3⟩ := at_T38 HR0.out x10_1 p1302 q1302
                  cases e1302
                  replace p1302 := eq_true p1302
                  replace q1302 := eq_true q1302
                  have p1303 : 0 ≤ (x9_1 : Int) := of_decide_eq_true (by first | (with_reducible assumption) | assumption)
                  have q1303 : x9_1 < (l0.length : Int) := of_decide_eq_true (by first | (with_reducible assumption) | assumption)
                  obtain ⟨ad1303, e1303, hx1303_0, hx1303_1, hx1303_2, hx1303_3⟩ := at_T38 HR0.out x9_1 p1303 q1303
                  obtain rfl : ad1302 = ad1303 := (by injection e1303)
                  replace p1303 := eq_true p1303
                  replace q1303 := eq_true q1303
                  go_wp2
                  repeat (go_quiet (fail); try go_wp2)
                  go_roundg kj5
                  case measure => have := HK1.out; have := HJ5.out; omega
                  case rel => exact ⟨(x9_1), (wrap64 (x10_1 + 1)), (by first | rfl | (simp; done) | (simp [*]; done)), (by first | rfl | (simp; done) | (simp [*]; done)), H', ⟨by have := HK1.out; have := HJ5.out; omega⟩, by repeat (first | exact Drawn0.refl _ | apply Drawn0.step)⟩
                ·rw [if_neg c20] at H
                 exact absurd H (by simp)
               ·rw [if_neg c19] at H
                exact absurd H (by simp)
              ·rw [if_neg c18] at H
               have c18b0 : (a3 == 4) = false := beq_eq_false_iff_ne.mpr c18
               have c18b1 : (a3 != 4) = true := bne_iff_ne.mpr c18
               have H' := Aside0.mk H
               clear H
               have p1300 : 0 ≤ (x10_1 : Int) := of_decide_eq_true (by first | (with_reducible assumption) | assumption)
               have q1300 : x10_1 < (l1.length : Int) := of_decide_eq_true (by first | (with_reducible assumption) | assumption)
               obtain ⟨ad1300, e1300, hx1300_0⟩ := Kd.at_int HR1.out x10_1 p1300 q1300
               cases e1300
               replace p1300 := eq_true p1300
               replace q1300 := eq_true q1300
               have p1301 : 0 ≤ (x9_1 : Int) := of_decide_eq_true (by first | (with_reducible assumption) | assumption)
               have q1301 : x9_1 < (l1.length : Int) := of_decide_eq_true (by first | (with_reducible assumption) | assumption)
               obtain ⟨ad1301, e1301, hx1301_0⟩ := Kd.at_int HR1.out x9_1 p1301 q1301
               obtain rfl : ad1300 = ad1301 := (by injection e1301)
               replace p1301 := eq_true p1301
               replace q1301 := eq_true q1301
               go_wp2
               repeat (go_quiet (fail); try go_wp2)
               go_roundg kj5
               case measure => have := HK1.out; have := HJ5.out; omega
               case rel => exact ⟨(x9_1), (wrap64 (x10_1 + 1)), (by first | rfl | (simp; done) | (simp [*]; done)), (by first | rfl | (simp; done) | (simp [*]; done)), H', ⟨by have := HK1.out; have := HJ5.out; omega⟩, by repeat (first | exact Drawn0.refl _ | apply Drawn0.step)⟩
            ·rw [if_neg c16] at H
             exact absurd H (by simp)
           ·rw [if_neg c15] at H
            exact absurd H (by simp)
          ·rw [if_neg c14] at H
           exact absurd H (by simp)
         ·rw [if_neg c13] at H
          exact absurd H (by simp)
        ·rw [if_neg c12] at H
         have c12b0 : (a3 == 2) = false := beq_eq_false_iff_ne.mpr c12
         have c12b1 : (a3 != 2) = true := bne_iff_ne.mpr c12
         by_cases c22 : a3 = 4
         ·rw [if_pos c22] at H
          have c22b0 : (a3 == 4) = true := beq_iff_eq.mpr c22
          have c22b1 : (a3 != 4) = false := bne_eq_false_iff_eq.mpr c22
          clear c22
          by_cases c23 : 0 ≤ x10_1
          ·rw [if_pos c23] at H
           have c23b0 : decide (0 ≤ x10_1) = true := decide_eq_true c23
           clear c23
           by_cases c24 : x10_1 < (l0.length : Int)
           ·rw [if_pos c24] at H
            have c24b0 : decide (x10_1 < (l0.length : Int)) = true := decide_eq_true c24
            clear c24
            by_cases c25 : 0 ≤ x9_1
            ·rw [if_pos c25] at H
             have c25b0 : decide (0 ≤ x9_1) = true := decide_eq_true c25
             clear c25
             by_cases c26 : x9_1 < (l0.length : Int)
             ·rw [if_pos c26] at H
              have c26b0 : decide (x9_1 < (l0.length : Int)) = true := decide_eq_true c26
              clear c26
              by_cases c27 : ((rd_T38 l0 x10_1).f3) < ((rd_T38 l0 x9_1).f3)
              ·rw [if_pos c27] at H
               have c27b0 : decide (((rd_T38 l0 x10_1).f3) < ((rd_T38 l0 x9_1).f3)) = true := decide_eq_true c27
               clear c27
               have H' := Aside0.mk H
               clear H
               have p1304 : 0 ≤ (x10_1 : Int) := of_decide_eq_true (by first | (with_reducible assumption) | assumption)
               have q1304 : x10_1 < (l0.length : Int) := of_decide_eq_true (by first | (with_reducible assumption) | assumption)
               obtain ⟨ad1304, e1304, hx1304_0, hx1304_1, hx1304_2, hx1304_3⟩ := at_T38 HR0.out x10_1 p1304 q1304
               cases e1304
               replace p1304 := eq_true p1304
               replace q1304 := eq_true q1304
               have p1305 : 0 ≤ (x9_1 : Int) := of_decide_eq_true (by first | (with_reducible assumption) | assumption)
               have q1305 : x9_1 < (l0.length : Int) := of_decide_eq_true (by first | (with_reducible assumption) | assumption)
               obtain ⟨ad1305, e1305, hx1305_0, hx1305_1, hx1305_2, hx1305_3⟩ := at_T38 HR0.out x9_1 p1305 q1305
               obtain rfl : ad1304 = ad1305 := (by injection e1305)
               replace p1305 := eq_true p1305
               replace q1305 := eq_true q1305
               go_wp2
               repeat (go_quiet (fail); try go_wp2)
               go_roundg kj5
               case measure => have := HK1.out; have := HJ5.out; omega
               case rel => exact ⟨(x10_1), (wrap64 (x10_1 + 1)), (by first | rfl | (simp; done) | (simp [*]; done)), (by first | rfl | (simp; done) | (simp [*]; done)), H', ⟨by have := HK1.out; have := HJ5.out; omega⟩, by repeat (first | exact Drawn0.refl _ | apply Drawn0.step)⟩
              ·rw [if_neg c27] at H
               have c27b0 : decide (((rd_T38 l0 x10_1).f3) < ((rd_T38 l0 x9_1).f3)) = false := decide_eq_false c27
               clear c27
               have H' := Aside0.mk H
               clear H
               have p1304 : 0 ≤ (x10_1 : Int) := of_decide_eq_true (by first | (with_reducible assumption) | assumption)
               have q1304 : x10_1 < (l0.length : Int) := of_decide_eq_true (by first | (with_reducible assumption) | assumption)
               obtain ⟨ad1304, e1304, hx1304_0, hx1304_1, hx1304_2, hx1304_3⟩ := at_T38 HR0.out x10_1 p1304 q1304
               cases e1304
               replace p1304 := eq_true p1304
               replace q1304 := eq_true q1304
               have p1305 : 0 ≤ (x9_1 : Int) := of_decide_eq_true (by first | (with_reducible assumption) | assumption)
               have q1305 : x9_1 < (l0.length : Int) := of_decide_eq_true (by first | (with_reducible assumption) | assumption)
               obtain ⟨ad1305, e1305, hx1305_0, hx1305_1, hx1305_2, hx1305_3⟩ := at_T38 HR0.out x9_1 p1305 q1305
               obtain rfl : ad1304 = ad1305 := (by injection e1305)
               replace p1305 := eq_true p1305
               replace q1305 := eq_true q1305
               go_wp2
               repeat (go_quiet (fail); try go_wp2)
               go_roundg kj5
               case measure => have := HK1.out; have := HJ5.out; omega
               case rel => exact ⟨(x9_1), (wrap64 (x10_1 + 1)), (by first | rfl | (simp; done) | (simp [*]; done)), (by first | rfl | (simp; done) | (simp [*]; done)), H', ⟨by have := HK1.out; have := HJ5.out; omega⟩, by repeat (first | exact Drawn0.refl _ | apply Drawn0.step)⟩
             ·rw [if_neg c26] at H
              exact absurd H (by simp)
            ·rw [if_neg c25] at H
             exact absurd H (by simp)
           ·rw [if_neg c24] at H
            exact absurd H (by simp)
          ·rw [if_neg c23] at H
           exact absurd H (by simp)
         ·rw [if_neg c22] at H
          have c22b0 : (a3 == 4) = false := beq_eq_false_iff_ne.mpr c22
          have c22b1 : (a3 != 4) = true := bne_iff_ne.mpr c22
          have H' := Aside0.mk H
          clear H
          go_wp2
          repeat (go_quiet (fail); try go_wp2)
          go_roundg kj5
          case measure => have := HK1.out; have := HJ5.out; omega
          case rel => exact ⟨(x9_1), (wrap64 (x10_1 + 1)), (by first | rfl | (simp; done) | (simp [*]; done)), (by first | rfl | (simp; done) | (simp [*]; done)), H', ⟨by have := HK1.out; have := HJ5.out; omega⟩, by repeat (first | exact Drawn0.refl _ | apply Drawn0.step)⟩
   ·rw [if_neg c5] at H
    have c5b0 : decide (x10_1 < (l0.length : Int)) = false := decide_eq_false c5
    clear c5
    obtain rfl := Option.some.inj H
    go_wp2
    repeat (go_quiet (fail); try go_wp2)
    go_ret
    exact ⟨by first | rfl | (simp; done) | (simp [*]; done), by repeat (first | exact Drawn0.refl _ | apply Drawn0.step)⟩

/-! ### spec_l5Choose: function 250 -/
mutual
def spec_l5Choose.l0 : Nat → List (S38) → Int → Int → List (S237) → List Int → Int → Int → Option ((List (S237)))
 | 0, _, _, _, _, _, _, _ => none
 | k + 1, x0, x2, x3, x9, x10, x11, x12 => if x12 < (x10.length : Int) then (if 0 ≤ x12 then (spec_l5Choose.l0 k x0 x2 x3 x9 x10 (wrap64 (x11 + (rd x10 x12))) (wrap64 (x12 + 1))) else (none)) else (spec_l5Choose.l1 k x0 x3 x9 x10 x11 x2)
def spec_l5Choose.l1 : Nat → List (S38) → Int → List (S237) → List Int → Int → Int → Option ((List (S237)))
 | 0, _, _, _, _, _, _ => none
 | k + 1, x0, x3, x9, x10, x11, x13 => if x11 > 0 then ((spec_l5Pick.f k x0 x10 x13 x3).bind fun t1313 => (if t1313 < 0 then (spec_l5Choose.l1 k x0 x3 x9 x10 x11 (wrap64 (x13 + 1))) else (if (wrap64 ((x9.length : Int) - 1)) ≥ 0 then (if 0 ≤ (wrap64 ((x9.length : Int) - 1)) then (if (wrap64 ((x9.length : Int) - 1)) < (x9.length : Int) then (if ((rd_T237 x9 (wrap64 ((x9.length : Int) - 1))).f0) = t1313 then (if ((rd_T237 x9 (wrap64 ((x9.length : Int) - 1))).f2) = x13 then (if 0 ≤ t1313 then (if t1313 < (x10.length : Int) then (spec_l5Choose.l1 k x0 x3 (x9.set ((wrap64 ((x9.length : Int) - 1)) : Int).toNat (⟨(rd_T237 x9 (wrap64 ((x9.length : Int) - 1))).f0, (rd_T237 x9 (wrap64 ((x9.length : Int) - 1))).f1, wrap64 (x13 + 1)⟩ : S237)) (x10.set (t1313 : Int).toNat (wrap64 ((rd x10 t1313) - 1))) (wrap64 (x11 - 1)) (wrap64 (x13 + 1))) else (none)) else (none)) else (if x9.length < 5864062014805 then (if 0 ≤ t1313 then (if t1313 < (x10.length : Int) then (spec_l5Choose.l1 k x0 x3 (x9 ++ [(⟨t1313, x13, wrap64 (x13 + 1)⟩ : S237)]) (x10.set (t1313 : Int).toNat (wrap64 ((rd x10 t1313) - 1))) (wrap64 (x11 - 1)) (wrap64 (x13 + 1))) else (none)) else (none)) else (none))) else (if x9.length < 5864062014805 then (if 0 ≤ t1313 then (if t1313 < (x10.length : Int) then (spec_l5Choose.l1 k x0 x3 (x9 ++ [(⟨t1313, x13, wrap64 (x13 + 1)⟩ : S237)]) (x10.set (t1313 : Int).toNat (wrap64 ((rd x10 t1313) - 1))) (wrap64 (x11 - 1)) (wrap64 (x13 + 1))) else (none)) else (none)) else (none))) else (none)) else (none)) else (if x9.length < 5864062014805 then (if 0 ≤ t1313 then (if t1313 < (x10.length : Int) then (spec_l5Choose.l1 k x0 x3 (x9 ++ [(⟨t1313, x13, wrap64 (x13 + 1)⟩ : S237)]) (x10.set (t1313 : Int).toNat (wrap64 ((rd x10 t1313) - 1))) (wrap64 (x11 - 1)) (wrap64 (x13 + 1))) else (none)) else (none)) else (none))))) else (some x9)
end
def spec_l5Choose.f (k : Nat) (l0 : List (S38)) (l1 : List Int) (a2 : Int) (a3 : Int) : Option ((List (S237))) := (spec_l1Own.f l1).bind fun t1309 => (spec_l5Choose.l0 k l0 a2 a3 (([] : List (S237))) t1309 0 0)
theorem spec_l5Choose.mono_l : ∀ k, (∀ y0 y1 y2 y3 y4 y5 y6, LeO (spec_l5Choose.l0 k y0 y1 y2 y3 y4 y5 y6) (spec_l5Choose.l0 (k + 1) y0 y1 y2 y3 y4 y5 y6)) ∧ (∀ y0 y1 y2 y3 y4 y5, LeO (spec_l5Choose.l1 k y0 y1 y2 y3 y4 y5) (spec_l5Choose.l1 (k + 1) y0 y1 y2 y3 y4 y5))
 | 0 => ⟨fun _ _ _ _ _ _ _ r h => by simp [spec_l5Choose.l0] at h, fun _ _ _ _ _ _ r h => by simp [spec_l5Choose.l1] at h⟩
 | k + 1 => by
  obtain ⟨ih0, ih1⟩ := spec_l5Choose.mono_l k
  refine ⟨?_, ?_⟩
  ·intro y0 y1 y2 y3 y4 y5 y6
   unfold spec_l5Choose.l0
   repeat' first
   | (with_reducible exact ih0 _ _ _ _ _ _ _)
   | (with_reducible exact ih1 _ _ _ _ _ _)
   | (with_reducible exact spec_l5Pick.mono _ _ _ _ _)
   | (with_reducible exact LeO.refl _)
   | (with_reducible exact LeO.none _)
   | (with_reducible refine LeO.ite ?_ ?_)
   | (with_reducible refine LeO.bind ?_ (fun _ => ?_))
   | exact ih0 _ _ _ _ _ _ _
   | exact ih1 _ _ _ _ _ _
   | exact spec_l5Pick.mono _ _ _ _ _
   | exact LeO.none _
   | refine LeO.ite ?_ ?_
   | refine LeO.bind ?_ (fun _ => ?_)
  ·intro y0 y1 y2 y3 y4 y5
   unfold spec_l5Choose.l1
   repeat' first
   | (with_reducible exact ih0 _ _ _ _ _ _ _)
   | (with_reducible exact ih1 _ _ _ _ _ _)
   | (with_reducible exact spec_l5Pick.mono _ _ _ _ _)
   | (with_reducible exact LeO.refl _)
   | (with_reducible exact LeO.none _)
   | (with_reducible refine LeO.ite ?_ ?_)
   | (with_reducible refine LeO.bind ?_ (fun _ => ?_))
   | exact ih0 _ _ _ _ _ _ _
   | exact ih1 _ _ _ _ _ _
   | exact spec_l5Pick.mono _ _ _ _ _
   | exact LeO.none _
   | refine LeO.ite ?_ ?_
   | refine LeO.bind ?_ (fun _ => ?_)
theorem spec_l5Choose.mono : ∀ a0 a1 a2 a3 k, LeO (spec_l5Choose.f k a0 a1 a2 a3) (spec_l5Choose.f (k + 1) a0 a1 a2 a3) := by
 intro a0 a1 a2 a3 k
 obtain ⟨ih0, ih1⟩ := spec_l5Choose.mono_l k
 unfold spec_l5Choose.f
 repeat' first
   | (with_reducible exact ih0 _ _ _ _ _ _ _)
   | (with_reducible exact ih1 _ _ _ _ _ _)
   | (with_reducible exact spec_l5Pick.mono _ _ _ _ _)
   | (with_reducible exact LeO.refl _)
   | (with_reducible exact LeO.none _)
   | (with_reducible refine LeO.ite ?_ ?_)
   | (with_reducible refine LeO.bind ?_ (fun _ => ?_))
   | exact ih0 _ _ _ _ _ _ _
   | exact ih1 _ _ _ _ _ _
   | exact spec_l5Pick.mono _ _ _ _ _
   | exact LeO.none _
   | refine LeO.ite ?_ ?_
   | refine LeO.bind ?_ (fun _ => ?_)
set_option maxHeartbeats 8000000 in
set_option maxRecDepth 100000 in
theorem spec_l5Choose.calls (k : Nat) (A0 : Option Addr) (c0 : Nat) (l0 : List (S38)) (A1 : Option Addr) (c1 : Nat) (l1 : List Int) (a2 : Int) (a3 : Int) (r : List (S237)) (w : World) (hr0 : Kd.C k38 w A0 l0.length l0) (hc0 : l0.length ≤ c0) (hr1 : Kd.C (Kd.int .i64) w A1 l1.length l1) (hc1 : l1.length ≤ c1) (h : spec_l5Choose.f k l0 l1 a2 a3 = some r) :
  Calls Try.prog 250 #[.slice A0 l0.length c0, .slice A1 l1.length c1, .int .i64 a2, .int .i64 a3] w fun e w' => ∃ v0_ : Value, e = .returned (v0_) ∧ Kd.R k237 237 w' w.heap.size (fun _ => True) v0_ r ∧ Below w.heap.size w w' := by
 have hu237 := Try.underlying237
 have HR0 := Aside0.mk hr0
 have HC0 := Aside0.mk hc0
 clear hr0 hc0
 have HR1 := Aside0.mk hr1
 have HC1 := Aside0.mk hc1
 clear hr1 hc1
 have HB := Aside0.mk (Below.refl w.heap.size w)
 have H : ((spec_l1Own.f l1).bind fun t1309 => (spec_l5Choose.l0 k l0 a2 a3 (([] : List (S237))) t1309 0 0)) = some r := h
 clear h
 obtain ⟨y1306, hy1306⟩ : ∃ y_ : List (S237), y_ = (([] : List (S237))) := ⟨_, rfl⟩
 replace H : ((spec_l1Own.f l1).bind fun t1309 => (spec_l5Choose.l0 k l0 a2 a3 y1306 t1309 0 0)) = some r := by first | (rw [hy1306]; with_reducible exact H) | (have H2_ := (Option.bind_some _ _).symm.trans H; rw [hy1306]; with_reducible exact H2_) | (have H2_ := (Option.bind_some _ _).symm.trans H; with_reducible exact H2_) | with_reducible exact H | (rw [hy1306]; exact H) | exact H
 have Ny1306 := Aside0.mk hy1306
 clear hy1306
 replace H := Option.bind_eq_some_iff.mp H
 obtain ⟨t1309, A50, H⟩ := H
 replace H : (spec_l5Choose.l0 k l0 a2 a3 y1306 t1309 0 0) = some r := H
 have A5 := Aside0.mk A50
 clear A50
 have H' := Aside0.mk H
 clear H
 go_enter Try.func250, Try.ntmps250
 go_wp2_with (first | ((with_reducible refine gate_dst (N := 16) rfl ?_); refine Kd.R_lit k237 _ 237 ?hg (N := 16) ?hd (xs := ([] : List (S237))) (inner := []) (ok := fun _ => True) (okp := fun _ => True) ?hr ?hp (fun _ hk => hk) trivial (Below.refl _ _) (Nat.le_refl _) (by simp) ?_; (case hd => rfl); (case hg => rfl); (case hr => first | (go_simp; done) | (go_simp; rfl)); (case hp => exact (Reps.none _ _)); intro v1307 w6 ho7 hb hg_ hnew_; clear hg_ hnew_; (first | rw [← Ny1306.out] at ho7 | (simp only [Int.reduceToNat] at ho7; rw [← Ny1306.out] at ho7)); have n0_ := Aside0.mk (Kd.R_lower ho7 (below_size (by repeat (first | (with_reducible first | exact HB.out | apply below_alloc | apply pw_below_drewN | apply below_drew1) | exact HB.out)))); have n1_ := Aside0.mk (below_step (by repeat (first | (with_reducible first | exact HB.out | apply below_alloc | apply pw_below_drewN | apply below_drew1) | exact HB.out)) hb); clear HB; have HO1308 := n0_; have HB := n1_; clear n0_ n1_; clear hb ho7) | ((with_reducible refine gate_callee (f := 153) rfl ?_); refine goesL_ (some 18) rfl rfl Try.func153 (by kernel_rfl) rfl #[.slice A1 l1.length c1] rfl (by (try simp only [List.map_toArray, List.map_cons, List.map_nil]); first | done | rfl | (simp only [List.length_drop, List.length_take]; rfl)) ?_; (with_reducible refine (spec_l1Own.calls _ _ l1 t1309 _ ?side1 ?side2 A5.out).mono ?_); (case side1 => repeat (first | exact (Kd.C_below HR1.out HB.out) | (with_reducible refine Kd.C_alloc ?_ _) | (with_reducible refine Kd.C_drewN ?_ _) | (with_reducible refine Kd.C_drew ?_))); (case side2 => exact HC1.out); rintro e w8 ⟨v1310, rfl, ho0, hb⟩; refine ⟨_, rfl, ?_⟩; have n0_ := Aside0.mk (Kd.R_below (by (with_reducible repeat (first | apply Kd.R_alloc | apply Kd.R_drewN | apply Kd.R_drew)); exact HO1308.out) hb); have n1_ := Aside0.mk (Kd.R_lower ho0 (below_size (by repeat (first | (with_reducible first | exact HB.out | apply below_alloc | apply pw_below_drewN | apply below_drew1) | exact HB.out)))); have n2_ := Aside0.mk (below_step (by repeat (first | (with_reducible first | exact HB.out | apply below_alloc | apply pw_below_drewN | apply below_drew1) | exact HB.out)) hb); clear HO1308; clear HB; have HO1308 := n0_; have HO1311 := n1_; have HB := n2_; clear n0_ n1_ n2_; (try clear hb); (try clear hb2); (try clear hk); (try clear hi); (try clear ho0)))
 go_loopg [11, 12] k (fun kq v11 v12 w' => ∃ (x11_1 : Int) (x12_1 : Int), v11 = .int .i64 x11_1 ∧ v12 = .int .i64 x12_1 ∧ Aside0 (spec_l5Choose.l0 kq l0 a2 a3 y1306 t1309 x11_1 x12_1 = some r) ∧ Aside0 (kq ≤ k) ∧ Aside0 (Kd.R k237 237 w' w.heap.size (fun _ => True) v1307 y1306) ∧ Aside0 (Kd.R (Kd.int .i64) 3 w' w.heap.size (fun _ => True) v1310 t1309) ∧ Aside0 (Below w.heap.size w w'))
 case atStart => exact ⟨(0), (0), (by first | rfl | (simp; done) | (simp [*]; done)), (by first | rfl | (simp; done) | (simp [*]; done)), H', ⟨Nat.le_refl _⟩, ⟨by (with_reducible repeat (first | apply Kd.R_alloc | apply Kd.R_drewN | apply Kd.R_drew)); exact HO1308.out⟩, ⟨by (with_reducible repeat (first | apply Kd.R_alloc | apply Kd.R_drewN | apply Kd.R_drew)); exact HO1311.out⟩, ⟨by repeat (first | (with_reducible first | exact HB.out | apply below_alloc | apply pw_below_drewN | apply below_drew1) | exact HB.out)⟩⟩
 case round =>
  clear H'
  try clear c1
  try clear c2
  try clear p2
  obtain ⟨x11_1, x12_1, rfl, rfl, HA, HK1, HO_9, HO_10, HB⟩ := hrel
  cases gk with
  | zero => exact absurd HA.out (by simp [spec_l5Choose.l0])
  | succ k1 =>
   have H := HA.out
   clear HA
   simp only [spec_l5Choose.l0] at H
   by_cases c9 : x12_1 < (t1309.length : Int)
   ·rw [if_pos c9] at H
    have c9b0 : decide (x12_1 < (t1309.length : Int)) = true := decide_eq_true c9
    clear c9
    by_cases c10 : 0 ≤ x12_1
    ·rw [if_pos c10] at H
     have c10b0 : decide (0 ≤ x12_1) = true := decide_eq_true c10
     clear c10
     have H' := Aside0.mk H
     clear H
     obtain ⟨Ao11, co11, eo11⟩ := Kd.R_slice HO_10.out
     subst eo11
     have p1312 : 0 ≤ (x12_1 : Int) := of_decide_eq_true (by first | (with_reducible assumption) | assumption)
     have q1312 : x12_1 < (t1309.length : Int) := of_decide_eq_true (by first | (with_reducible assumption) | assumption)
     obtain ⟨ad1312, e1312, hx1312_0⟩ := Kd.at_int (Kd.R_reads' HO_10.out).2.2 x12_1 p1312 q1312
     cases e1312
     replace p1312 := eq_true p1312
     replace q1312 := eq_true q1312
     go_wp2
     go_roundg k1
     case measure => have := HK1.out; omega
     case rel => exact ⟨(wrap64 (x11_1 + (rd t1309 x12_1))), (wrap64 (x12_1 + 1)), (by first | rfl | (simp; done) | (simp [*]; done)), (by first | rfl | (simp; done) | (simp [*]; done)), H', ⟨by have := HK1.out; omega⟩, ⟨by (with_reducible repeat (first | apply Kd.R_alloc | apply Kd.R_drewN | apply Kd.R_drew)); exact HO_9.out⟩, ⟨by (with_reducible repeat (first | apply Kd.R_alloc | apply Kd.R_drewN | apply Kd.R_drew)); exact HO_10.out⟩, ⟨by repeat (first | (with_reducible first | exact HB.out | apply below_alloc | apply pw_below_drewN | apply below_drew1) | exact HB.out)⟩⟩
    ·rw [if_neg c10] at H
     exact absurd H (by simp)
   ·rw [if_neg c9] at H
    have c9b0 : decide (x12_1 < (t1309.length : Int)) = false := decide_eq_false c9
    clear c9
    have H' := Aside0.mk H
    clear H
    obtain ⟨Ao12, co12, eo12⟩ := Kd.R_slice HO_10.out
    subst eo12
    go_wp2
    go_loopg [9, 11, 13] k1 (fun kq v9 v11 v13 w' => ∃ (x9_2 : List (S237)) (x10_2 : List Int) (x11_2 : Int) (x13_2 : Int), v11 = .int .i64 x11_2 ∧ v13 = .int .i64 x13_2 ∧ Aside0 (spec_l5Choose.l1 kq l0 a3 x9_2 x10_2 x11_2 x13_2 = some r) ∧ Aside0 (kq ≤ k1) ∧ Aside0 (Kd.R k237 237 w' w.heap.size (fun _ => True) v9 x9_2) ∧ Aside0 (Kd.R (Kd.int .i64) 3 w' w.heap.size (fun _ => True) (.slice Ao12 t1309.length co12) x10_2) ∧ Aside0 (Below w.heap.size w w'))
    case atStart => exact ⟨(y1306), (t1309), (x11_1), (a2), (by first | rfl | (simp; done) | (simp [*]; done)), (by first | rfl | (simp; done) | (simp [*]; done)), H', ⟨Nat.le_refl _⟩, ⟨by (with_reducible repeat (first | apply Kd.R_alloc | apply Kd.R_drewN | apply Kd.R_drew)); exact HO_9.out⟩, ⟨by (with_reducible repeat (first | apply Kd.R_alloc | apply Kd.R_drewN | apply Kd.R_drew)); exact HO_10.out⟩, ⟨by repeat (first | (with_reducible first | exact HB.out | apply below_alloc | apply pw_below_drewN | apply below_drew1) | exact HB.out)⟩⟩
    case round =>
     clear H'
     try clear c1
     try clear p1
     try clear q1
     try clear hx1
     try clear c2
     try clear p2
     try clear p6
     try clear c9
     try clear c9b0
     try clear c10
     try clear c10b0
     try clear hx1312_0
     try clear p1312
     try clear p2
     try clear q1312
     obtain ⟨x9_2, x10_2, x11_2, x13_2, rfl, rfl, HA, HK2, HO_9, HO_10, HB⟩ := hrel
     have hl10_2 := (Kd.R_reads' HO_10.out).1
     rw [hl10_2] at HO_10
     (try simp only [hl10_2])
     (try simp only [hl10_2] at HO_9)
     cases gk with
     | zero => exact absurd HA.out (by simp [spec_l5Choose.l1])
     | succ k2 =>
      have H := HA.out
      clear HA
      simp only [spec_l5Choose.l1] at H
      by_cases c13 : x11_2 > 0
      ·rw [if_pos c13] at H
       have c13b0 : decide (0 < x11_2) = true := decide_eq_true c13
       clear c13
       replace H := Option.bind_eq_some_iff.mp H
       obtain ⟨t1313, A140, H⟩ := H
       replace H : (if t1313 < 0 then (spec_l5Choose.l1 k2 l0 a3 x9_2 x10_2 x11_2 (wrap64 (x13_2 + 1))) else (if (wrap64 ((x9_2.length : Int) - 1)) ≥ 0 then (if 0 ≤ (wrap64 ((x9_2.length : Int) - 1)) then (if (wrap64 ((x9_2.length : Int) - 1)) < (x9_2.length : Int) then (if ((rd_T237 x9_2 (wrap64 ((x9_2.length : Int) - 1))).f0) = t1313 then (if ((rd_T237 x9_2 (wrap64 ((x9_2.length : Int) - 1))).f2) = x13_2 then (if 0 ≤ t1313 then (if t1313 < (x10_2.length : Int) then (spec_l5Choose.l1 k2 l0 a3 (x9_2.set ((wrap64 ((x9_2.length : Int) - 1)) : Int).toNat (⟨(rd_T237 x9_2 (wrap64 ((x9_2.length : Int) - 1))).f0, (rd_T237 x9_2 (wrap64 ((x9_2.length : Int) - 1))).f1, wrap64 (x13_2 + 1)⟩ : S237)) (x10_2.set (t1313 : Int).toNat (wrap64 ((rd x10_2 t1313) - 1))) (wrap64 (x11_2 - 1)) (wrap64 (x13_2 + 1))) else (none)) else (none)) else (if x9_2.length < 5864062014805 then (if 0 ≤ t1313 then (if t1313 < (x10_2.length : Int) then (spec_l5Choose.l1 k2 l0 a3 (x9_2 ++ [(⟨t1313, x13_2, wrap64 (x13_2 + 1)⟩ : S237)]) (x10_2.set (t1313 : Int).toNat (wrap64 ((rd x10_2 t1313) - 1))) (wrap64 (x11_2 - 1)) (wrap64 (x13_2 + 1))) else (none)) else (none)) else (none))) else (if x9_2.length < 5864062014805 then (if 0 ≤ t1313 then (if t1313 < (x10_2.length : Int) then (spec_l5Choose.l1 k2 l0 a3 (x9_2 ++ [(⟨t1313, x13_2, wrap64 (x13_2 + 1)⟩ : S237)]) (x10_2.set (t1313 : Int).toNat (wrap64 ((rd x10_2 t1313) - 1))) (wrap64 (x11_2 - 1)) (wrap64 (x13_2 + 1))) else (none)) else (none)) else (none))) else (none)) else (none)) else (if x9_2.length < 5864062014805 then (if 0 ≤ t1313 then (if t1313 < (x10_2.length : Int) then (spec_l5Choose.l1 k2 l0 a3 (x9_2 ++ [(⟨t1313, x13_2, wrap64 (x13_2 + 1)⟩ : S237)]) (x10_2.set (t1313 : Int).toNat (wrap64 ((rd x10_2 t1313) - 1))) (wrap64 (x11_2 - 1)) (wrap64 (x13_2 + 1))) else (none)) else (none)) else (none)))) = some r := H
       have A14 := Aside0.mk A140
       clear A140
       by_cases c15 : t1313 < 0
       ·rw [if_pos c15] at H
        have c15b0 : decide (t1313 < 0) = true := decide_eq_true c15
        clear c15
        have H' := Aside0.mk H
        clear H
        go_wp2_with (first | ((with_reducible refine gate_callee (f := 297) rfl ?_); refine goesL_ (some 40) rfl rfl Try.func297 (by kernel_rfl) rfl #[.slice A0 l0.length c0, .slice Ao12 x10_2.length co12, .int .i64 x13_2, .int .i64 a3] rfl (by (try simp only [List.map_toArray, List.map_cons, List.map_nil]); first | done | rfl | (simp only [List.length_drop, List.length_take]; rfl)) ?_; (with_reducible refine (spec_l5Pick.calls k2 _ _ l0 _ _ x10_2 x13_2 a3 t1313 _ ?side1 ?side2 ?side3 ?side4 A14.out).mono ?_); (case side1 => repeat (first | exact (Kd.C_below HR0.out HB.out) | (with_reducible refine Kd.C_alloc ?_ _) | (with_reducible refine Kd.C_drewN ?_ _) | (with_reducible refine Kd.C_drew ?_))); (case side2 => exact HC0.out); (case side3 => repeat (first | exact (Kd.R_reads' HO_10.out).2.2 | (with_reducible refine Kd.C_alloc ?_ _) | (with_reducible refine Kd.C_drewN ?_ _) | (with_reducible refine Kd.C_drew ?_))); (case side4 => exact (Kd.R_reads' HO_10.out).2.1); rintro e w' ⟨rfl, ⟨nd, rfl⟩⟩; refine ⟨_, rfl, ?_⟩))
        (try simp only [← hl10_2])
        go_roundg k2
        case measure => have := HK1.out; have := HK2.out; omega
        case rel => exact ⟨(x9_2), (x10_2), (x11_2), (wrap64 (x13_2 + 1)), (by first | rfl | (simp; done) | (simp [*]; done)), (by first | rfl | (simp; done) | (simp [*]; done)), H', ⟨by have := HK1.out; have := HK2.out; omega⟩, ⟨by (try simp only [hl10_2]); (with_reducible repeat (first | apply Kd.R_alloc | apply Kd.R_drewN | apply Kd.R_drew)); exact HO_9.out⟩, ⟨by (try simp only [hl10_2]); (with_reducible repeat (first | apply Kd.R_alloc | apply Kd.R_drewN | apply Kd.R_drew)); exact HO_10.out⟩, ⟨by repeat (first | (with_reducible first | exact HB.out | apply below_alloc | apply pw_below_drewN | apply below_drew1) | exact HB.out)⟩⟩
       ·rw [if_neg c15] at H
        have c15b0 : decide (t1313 < 0) = false := decide_eq_false c15
        clear c15
        by_cases c16 : (wrap64 ((x9_2.length : Int) - 1)) ≥ 0
        ·rw [if_pos c16] at H
         have c16b0 : decide (0 ≤ (wrap64 ((x9_2.length : Int) - 1))) = true := decide_eq_true c16
         clear c16
         obtain ⟨ji17, hji17⟩ : ∃ j_ : Int, (wrap64 ((x9_2.length : Int) - 1)) = j_ := ⟨_, rfl⟩
         replace H : (if 0 ≤ (ji17) then (if (ji17) < (x9_2.length : Int) then (if ((rd_T237 x9_2 (ji17)).f0) = t1313 then (if ((rd_T237 x9_2 (ji17)).f2) = x13_2 then (if 0 ≤ t1313 then (if t1313 < (x10_2.length : Int) then (spec_l5Choose.l1 k2 l0 a3 (x9_2.set ((ji17) : Int).toNat (⟨(rd_T237 x9_2 (ji17)).f0, (rd_T237 x9_2 (ji17)).f1, wrap64 (x13_2 + 1)⟩ : S237)) (x10_2.set (t1313 : Int).toNat (wrap64 ((rd x10_2 t1313) - 1))) (wrap64 (x11_2 - 1)) (wrap64 (x13_2 + 1))) else (none)) else (none)) else (if x9_2.length < 5864062014805 then (if 0 ≤ t1313 then (if t1313 < (x10_2.length : Int) then (spec_l5Choose.l1 k2 l0 a3 (x9_2 ++ [(⟨t1313, x13_2, wrap64 (x13_2 + 1)⟩ : S237)]) (x10_2.set (t1313 : Int).toNat (wrap64 ((rd x10_2 t1313) - 1))) (wrap64 (x11_2 - 1)) (wrap64 (x13_2 + 1))) else (none)) else (none)) else (none))) else (if x9_2.length < 5864062014805 then (if 0 ≤ t1313 then (if t1313 < (x10_2.length : Int) then (spec_l5Choose.l1 k2 l0 a3 (x9_2 ++ [(⟨t1313, x13_2, wrap64 (x13_2 + 1)⟩ : S237)]) (x10_2.set (t1313 : Int).toNat (wrap64 ((rd x10_2 t1313) - 1))) (wrap64 (x11_2 - 1)) (wrap64 (x13_2 + 1))) else (none)) else (none)) else (none))) else (none)) else (none)) = some r := by first | (rw [hji17] at H; exact H) | (simp only [hji17] at H ⊢; exact H)
         (try rw [hji17] at c16b0)
         (try rw [hji17] at A14)
         have hji17w : (IntKind.i64.wrap ((x9_2.length : Int) - 1)) = ji17 := (i64_w _).trans hji17
         by_cases c18 : 0 ≤ (ji17)
         ·rw [if_pos c18] at H
          have c18b0 : decide (0 ≤ (ji17)) = true := decide_eq_true c18
          clear c18
          by_cases c19 : (ji17) < (x9_2.length : Int)
          ·rw [if_pos c19] at H
           have c19b0 : decide ((ji17) < (x9_2.length : Int)) = true := decide_eq_true c19
           clear c19
           by_cases c20 : ((rd_T237 x9_2 (ji17)).f0) = t1313
           ·rw [if_pos c20] at H
            have c20b0 : (((rd_T237 x9_2 (ji17)).f0) == t1313) = true := beq_iff_eq.mpr c20
            have c20b1 : (((rd_T237 x9_2 (ji17)).f0) != t1313) = false := bne_eq_false_iff_eq.mpr c20
            clear c20
            by_cases c21 : ((rd_T237 x9_2 (ji17)).f2) = x13_2
            ·rw [if_pos c21] at H
             have c21b0 : (((rd_T237 x9_2 (ji17)).f2) == x13_2) = true := beq_iff_eq.mpr c21
             have c21b1 : (((rd_T237 x9_2 (ji17)).f2) != x13_2) = false := bne_eq_false_iff_eq.mpr c21
             clear c21
             obtain ⟨y1316, hy1316⟩ : ∃ y_ : List (S237), y_ = (x9_2.set ((ji17) : Int).toNat (⟨(rd_T237 x9_2 (ji17)).f0, (rd_T237 x9_2 (ji17)).f1, wrap64 (x13_2 + 1)⟩ : S237)) := ⟨_, rfl⟩
             replace H : (if 0 ≤ t1313 then (if t1313 < (x10_2.length : Int) then (spec_l5Choose.l1 k2 l0 a3 y1316 (x10_2.set (t1313 : Int).toNat (wrap64 ((rd x10_2 t1313) - 1))) (wrap64 (x11_2 - 1)) (wrap64 (x13_2 + 1))) else (none)) else (none)) = some r := by first | (rw [hy1316]; with_reducible exact H) | (have H2_ := (Option.bind_some _ _).symm.trans H; rw [hy1316]; with_reducible exact H2_) | (have H2_ := (Option.bind_some _ _).symm.trans H; with_reducible exact H2_) | with_reducible exact H | (rw [hy1316]; exact H) | exact H
             have Ny1316 := Aside0.mk hy1316
             clear hy1316
             by_cases c23 : 0 ≤ t1313
             ·rw [if_pos c23] at H
              have c23b0 : decide (0 ≤ t1313) = true := decide_eq_true c23
              clear c23
              by_cases c24 : t1313 < (x10_2.length : Int)
              ·rw [if_pos c24] at H
               have c24b0 : decide (t1313 < (x10_2.length : Int)) = true := decide_eq_true c24
               clear c24
               obtain ⟨y1318, hy1318⟩ : ∃ y_ : List Int, y_ = (x10_2.set (t1313 : Int).toNat (wrap64 ((rd x10_2 t1313) - 1))) := ⟨_, rfl⟩
               replace H : (spec_l5Choose.l1 k2 l0 a3 y1316 y1318 (wrap64 (x11_2 - 1)) (wrap64 (x13_2 + 1))) = some r := by first | (rw [hy1318]; with_reducible exact H) | (have H2_ := (Option.bind_some _ _).symm.trans H; rw [hy1318]; with_reducible exact H2_) | (have H2_ := (Option.bind_some _ _).symm.trans H; with_reducible exact H2_) | with_reducible exact H | (rw [hy1318]; exact H) | exact H
               have Ny1318 := Aside0.mk hy1318
               clear hy1318
               have H' := Aside0.mk H
               clear H
               go_wp2_with (first | ((with_reducible refine gate_callee (f := 297) rfl ?_); refine goesL_ (some 40) rfl rfl Try.func297 (by kernel_rfl) rfl #[.slice A0 l0.length c0, .slice Ao12 x10_2.length co12, .int .i64 x13_2, .int .i64 a3] rfl (by (try simp only [List.map_toArray, List.map_cons, List.map_nil]); first | done | rfl | (simp only [List.length_drop, List.length_take]; rfl)) ?_; (with_reducible refine (spec_l5Pick.calls k2 _ _ l0 _ _ x10_2 x13_2 a3 t1313 _ ?side1 ?side2 ?side3 ?side4 A14.out).mono ?_); (case side1 => repeat (first | exact (Kd.C_below HR0.out HB.out) | (with_reducible refine Kd.C_alloc ?_ _) | (with_reducible refine Kd.C_drewN ?_ _) | (with_reducible refine Kd.C_drew ?_))); (case side2 => exact HC0.out); (case side3 => repeat (first | exact (Kd.R_reads' HO_10.out).2.2 | (with_reducible refine Kd.C_alloc ?_ _) | (with_reducible refine Kd.C_drewN ?_ _) | (with_reducible refine Kd.C_drew ?_))); (case side4 => exact (Kd.R_reads' HO_10.out).2.1); rintro e w' ⟨rfl, ⟨nd, rfl⟩⟩; refine ⟨_, rfl, ?_⟩; (try (rw [drewN_self wr]; generalize hq_ : World.drewN wr _ = wr; have n0_ : Aside0 (Kd.R (Kd.int .i64) 3 wr w.heap.size (fun _ => True) (.slice Ao12 x10_2.length co12) x10_2) := ⟨by rw [← hq_]; exact (by (with_reducible repeat (first | apply Kd.R_alloc | apply Kd.R_drewN | apply Kd.R_drew)); exact HO_10.out)⟩; have n1_ : Aside0 (Kd.R k237 237 wr w.heap.size (fun _ => True) u9 x9_2) := ⟨by rw [← hq_]; exact (by (with_reducible repeat (first | apply Kd.R_alloc | apply Kd.R_drewN | apply Kd.R_drew)); exact HO_9.out)⟩; have n2_ : Aside0 (Below w.heap.size w wr) := ⟨by rw [← hq_]; exact (by repeat (first | (with_reducible first | exact HB.out | apply below_alloc | apply pw_below_drewN | apply below_drew1) | exact HB.out))⟩; (try replace hx1312_0 := cell_at hq_ hx1312_0); (try replace hx25_0 := cell_at hq_ hx25_0); (try replace hf25_0 := frz_at hq_ hf25_0); (try replace hx1314_0 := cell_at hq_ hx1314_0); (try replace hx1314_1 := cell_at hq_ hx1314_1); (try replace hx1314_2 := cell_at hq_ hx1314_2); clear HO_10 HO_9 HB hq_; have HO_10 := n0_; have HO_9 := n1_; have HB := n2_; clear n0_ n1_ n2_)); obtain ⟨Ao26, co26, eo26⟩ := Kd.R_slice HO_9.out; subst eo26; have p1314 : 0 ≤ ((ji17) : Int) := of_decide_eq_true (by first | (with_reducible assumption) | assumption); have q1314 : (ji17) < (x9_2.length : Int) := of_decide_eq_true (by first | (with_reducible assumption) | assumption); obtain ⟨ad1314, e1314, hx1314_0, hx1314_1, hx1314_2⟩ := at_T237 (Kd.R_reads' HO_9.out).2.2 (ji17) p1314 q1314; cases e1314; replace p1314 := eq_true p1314; replace q1314 := eq_true q1314; have p1315 : 0 ≤ ((ji17) : Int) := of_decide_eq_true (by first | (with_reducible assumption) | assumption); have q1315 : (ji17) < (x9_2.length : Int) := of_decide_eq_true (by first | (with_reducible assumption) | assumption); obtain ⟨ad1315, e1315, hx1315_0, hx1315_1, hx1315_2⟩ := at_T237 (Kd.R_reads' HO_9.out).2.2 (ji17) p1315 q1315; obtain rfl : ad1314 = ad1315 := (by injection e1315); replace p1315 := eq_true p1315; replace q1315 := eq_true q1315; have p22 : 0 ≤ ((ji17) : Int) := of_decide_eq_true (by first | (with_reducible assumption) | assumption); have q22 : ((ji17) : Int) < ((x9_2.length : Int) : Int) := of_decide_eq_true (by first | (with_reducible assumption) | assumption); obtain ⟨go22, co22, eo22, gb22, gl22, cl22, HG22⟩ := Kd.R_form HO_9.out (by omega); (first | cases eo22 | (injection eo22 with ea_ en_ ec_; (first | subst ea_ | (injection ea_ with ea_; subst ea_)); subst ec_; clear en_)); have GB22 := Aside0.mk gb22; have GG22 := Aside0.mk HG22; clear gb22 gl22 HG22; (first | simp only [add_plain] at hx1314_0 | skip); (first | simp only [add_plain] at hx1314_1 | skip); (first | simp only [add_plain] at hx1314_2 | skip); (first | simp only [add_plain] at hx1315_0 | skip); (first | simp only [add_plain] at hx1315_1 | skip); (first | simp only [add_plain] at hx1315_2 | skip); obtain ⟨ce22, hcl22, hM22, hcc22, hfr22⟩ := Kd.R_elem HO_9.out z237 ((ji17) : Int) p22 q22; obtain rfl := k237_openM hM22; have hx22_0 : wr.cell? ⟨go22, ((ji17) : Int).toNat * 3, none⟩ = some (.int .i64 ((rd_T237 x9_2 (ji17)).f0)) := hcc22 0 _ rfl; have hx22_1 : wr.cell? ⟨go22, ((ji17) : Int).toNat * 3 + 1, none⟩ = some (.int .i64 ((rd_T237 x9_2 (ji17)).f1)) := hcc22 1 _ rfl; have hx22_2 : wr.cell? ⟨go22, ((ji17) : Int).toNat * 3 + 2, none⟩ = some (.int .i64 ((rd_T237 x9_2 (ji17)).f2)) := hcc22 2 _ rfl; have hf22_0 : wr.frozen? ⟨go22, ((ji17) : Int).toNat * 3, none⟩ = false := hfr22 0; have hf22_1 : wr.frozen? ⟨go22, ((ji17) : Int).toNat * 3 + 1, none⟩ = false := hfr22 1; have hf22_2 : wr.frozen? ⟨go22, ((ji17) : Int).toNat * 3 + 2, none⟩ = false := hfr22 2; clear hcl22 hcc22 hfr22; (try clear hM22); replace p22 := eq_true p22; replace q22 := eq_true q22; have HX27 := Aside0.mk (show Kd.R k237 237 wr w.heap.size (fun _ => True) (.slice (some ⟨go22, 0, none⟩) x9_2.length co26) x9_2 from (by (with_reducible repeat (first | apply Kd.R_alloc | apply Kd.R_drewN | apply Kd.R_drew)); exact HO_9.out)); obtain ⟨ce27, hcl27, hM27, hcc27, hfr27⟩ := Kd.R_elem HX27.out z237 ((ji17) : Int) (of_decide_eq_true (by first | (with_reducible assumption) | assumption)) (by have h_ : ((ji17) : Int) < ((x9_2.length : Int) : Int) := of_decide_eq_true (by first | (with_reducible assumption) | assumption); first | exact h_ | (have e_ := (Kd.R_reads' HO_9.out).1; omega) | simpa using h_); obtain rfl := k237_openM hM27; have HP27 := Kd.R_seg HX27.out ((ji17) : Int) (of_decide_eq_true (by first | (with_reducible assumption) | assumption)) (by have h_ : ((ji17) : Int) < ((x9_2.length : Int) : Int) := of_decide_eq_true (by first | (with_reducible assumption) | assumption); first | exact h_ | (have e_ := (Kd.R_reads' HO_9.out).1; omega) | simpa using h_) (seg := [.int .i64 (wrap64 (x13_2 + 1))]) (j := 2) hcl27 hcc27 (show 3 ≤ 3 from by decide) (x' := (⟨(rd_T237 x9_2 (ji17)).f0, (rd_T237 x9_2 (ji17)).f1, wrap64 (x13_2 + 1)⟩ : S237)) (k237_mkM _ _ _ (⟨(rd_T237 x9_2 (ji17)).f0, (rd_T237 x9_2 (ji17)).f1, wrap64 (x13_2 + 1)⟩ : S237) ) (fun _ hk => hk); have hx27_2 := hcc27 2 _ rfl; (try simp only [show (k237).sz = 3 from rfl, Nat.mul_one, Nat.add_zero] at hx27_2); have hf27_2 := hfr27 2; (try simp only [show (k237).sz = 3 from rfl, Nat.mul_one, Nat.add_zero] at hf27_2); clear hcl27 hcc27 hfr27; (try clear hM27)) | ((with_reducible refine gate_store (t := 3) (p := 71) rfl ?_); refine store_event (t := 3) (p := 71) (v := ?vo_w28) (w1 := (wr.setCell ⟨go22, ((ji17) : Int).toNat * 3 + 2, none⟩ (.int .i64 (wrap64 (x13_2 + 1))))) ?hg ?ho ?hn ?hr ?_; (case ho => rfl); (case hg => rfl); (case hn => rfl); (case hr => first | (go_simp; done) | (go_simp; rfl)); intro w28 hw; have hg : wr.grownBy w28 (some go22) := (by rw [hw]; exact HP27.2); have hp_ : Kd.R k237 237 w28 w.heap.size (fun _ => True) (.slice (some ⟨go22, 0, none⟩) x9_2.length co26) y1316 := (by rw [hw, Ny1316.out]; exact HP27.1); clear HP27; have n0_ := Aside0.mk (hp_); have n1_ := Aside0.mk (Kd.R_over' (v := (.slice (some ⟨go22, 0, none⟩) x9_2.length co26)) (by (with_reducible repeat (first | apply Kd.R_alloc | apply Kd.R_drewN | apply Kd.R_drew)); exact HO_10.out) (Kd.R_typed HO_9.out) (by decide) hg); have n2_ := Aside0.mk ((by rw [hw]; exact below_set (HB.out) GB22.out : Below w.heap.size w w28)); clear HO_9; clear HO_10; clear HB; have HO_9 := n0_; have HO_10 := n1_; have HB := n2_; clear n0_ n1_ n2_; clear hg hw hp_; have p1317 : 0 ≤ (t1313 : Int) := of_decide_eq_true (by first | (with_reducible assumption) | assumption); have q1317 : t1313 < (x10_2.length : Int) := of_decide_eq_true (by first | (with_reducible assumption) | assumption); obtain ⟨ad1317, e1317, hx1317_0⟩ := Kd.at_int (Kd.R_reads' HO_10.out).2.2 t1313 p1317 q1317; cases e1317; replace p1317 := eq_true p1317; replace q1317 := eq_true q1317; have p25 : 0 ≤ (t1313 : Int) := of_decide_eq_true (by first | (with_reducible assumption) | assumption); have q25 : (t1313 : Int) < ((x10_2.length : Int) : Int) := of_decide_eq_true (by first | (with_reducible assumption) | assumption); obtain ⟨go25, co25, eo25, gb25, gl25, cl25, HG25⟩ := Kd.R_form HO_10.out (by omega); (first | cases eo25 | (injection eo25 with ea_ en_ ec_; (first | subst ea_ | (injection ea_ with ea_; subst ea_)); subst ec_; clear en_)); have GB25 := Aside0.mk gb25; have GG25 := Aside0.mk HG25; clear gb25 gl25 HG25; (first | simp only [add_plain] at hx1317_0 | skip); obtain ⟨hx25_0, hf25_0⟩ := Kd.R_celln 0 HO_10.out (t1313 : Int) p25 q25; replace p25 := eq_true p25; replace q25 := eq_true q25; obtain ⟨hy29_, hz29_⟩ := Kd.R_celln 0 HO_10.out (t1313 : Int) (of_decide_eq_true (by first | (with_reducible assumption) | assumption)) (of_decide_eq_true (by first | (with_reducible assumption) | assumption)); have HP29 := Kd.R_putg HO_10.out (t1313 : Int) (wrap64 ((rd x10_2 t1313) - 1))) | ((with_reducible refine gate_store (t := 3) (p := 87) rfl ?_); refine store_event (t := 3) (p := 87) (v := ?vo_w30) (w1 := (w28.setCell ⟨go25, (t1313 : Int).toNat, none⟩ (.int .i64 (wrap64 ((rd x10_2 t1313) - 1))))) ?hg ?ho ?hn ?hr ?_; (case ho => rfl); (case hg => rfl); (case hn => rfl); (case hr => first | (go_simp; done) | (go_simp; rfl)); intro w30 hw; have hg : w28.grownBy w30 (some go25) := (by rw [hw]; exact HP29.2); have hp_ : Kd.R (Kd.int .i64) 3 w30 w.heap.size (fun _ => True) (.slice (some ⟨go25, 0, none⟩) x10_2.length co12) y1318 := (by rw [hw, Ny1318.out]; exact HP29.1); clear HP29; have n0_ := Aside0.mk (Kd.R_over' (v := (.slice (some ⟨go25, 0, none⟩) x10_2.length co12)) (by (with_reducible repeat (first | apply Kd.R_alloc | apply Kd.R_drewN | apply Kd.R_drew)); exact HO_9.out) (Kd.R_typed HO_10.out) (by decide) hg); have n1_ := Aside0.mk (hp_); have n2_ := Aside0.mk ((by rw [hw]; exact below_set (HB.out) GB25.out : Below w.heap.size w w30)); clear HO_9; clear HO_10; clear HB; have HO_9 := n0_; have HO_10 := n1_; have HB := n2_; clear n0_ n1_ n2_; clear hg hw hp_))
               (try simp only [← hl10_2])
               go_roundg k2
               case measure => have := HK1.out; have := HK2.out; omega
               case rel => exact ⟨(y1316), (y1318), (wrap64 (x11_2 - 1)), (wrap64 (x13_2 + 1)), (by first | rfl | (simp; done) | (simp [*]; done)), (by first | rfl | (simp; done) | (simp [*]; done)), H', ⟨by have := HK1.out; have := HK2.out; omega⟩, ⟨by (try simp only [hl10_2]); (with_reducible repeat (first | apply Kd.R_alloc | apply Kd.R_drewN | apply Kd.R_drew)); exact HO_9.out⟩, ⟨by (try simp only [hl10_2]); (with_reducible repeat (first | apply Kd.R_alloc | apply Kd.R_drewN | apply Kd.R_drew)); exact HO_10.out⟩, ⟨by repeat (first | (with_reducible first | exact HB.out | apply below_alloc | apply pw_below_drewN | apply below_drew1) | exact HB.out)⟩⟩
              ·rw [if_neg c24] at H
               exact absurd H (by simp)
             ·rw [if_neg c23] at H
              exact absurd H (by simp)
            ·rw [if_neg c21] at H
             have c21b0 : (((rd_T237 x9_2 (ji17)).f2) == x13_2) = false := beq_eq_false_iff_ne.mpr c21
             have c21b1 : (((rd_T237 x9_2 (ji17)).f2) != x13_2) = true := bne_iff_ne.mpr c21
             by_cases c31 : x9_2.length < 5864062014805
             ·rw [if_pos c31] at H
              have LMc31 := Aside0.mk c31
              clear c31
              obtain ⟨y1319, hy1319⟩ : ∃ y_ : List (S237), y_ = (x9_2 ++ [(⟨t1313, x13_2, wrap64 (x13_2 + 1)⟩ : S237)]) := ⟨_, rfl⟩
              replace H : (if 0 ≤ t1313 then (if t1313 < (x10_2.length : Int) then (spec_l5Choose.l1 k2 l0 a3 y1319 (x10_2.set (t1313 : Int).toNat (wrap64 ((rd x10_2 t1313) - 1))) (wrap64 (x11_2 - 1)) (wrap64 (x13_2 + 1))) else (none)) else (none)) = some r := by first | (rw [hy1319]; with_reducible exact H) | (have H2_ := (Option.bind_some _ _).symm.trans H; rw [hy1319]; with_reducible exact H2_) | (have H2_ := (Option.bind_some _ _).symm.trans H; with_reducible exact H2_) | with_reducible exact H | (rw [hy1319]; exact H) | exact H
              have Ny1319 := Aside0.mk hy1319
              clear hy1319
              by_cases c32 : 0 ≤ t1313
              ·rw [if_pos c32] at H
               have c32b0 : decide (0 ≤ t1313) = true := decide_eq_true c32
               clear c32
               by_cases c33 : t1313 < (x10_2.length : Int)
               ·rw [if_pos c33] at H
                have c33b0 : decide (t1313 < (x10_2.length : Int)) = true := decide_eq_true c33
                clear c33
                obtain ⟨y1323, hy1323⟩ : ∃ y_ : List Int, y_ = (x10_2.set (t1313 : Int).toNat (wrap64 ((rd x10_2 t1313) - 1))) := ⟨_, rfl⟩
                replace H : (spec_l5Choose.l1 k2 l0 a3 y1319 y1323 (wrap64 (x11_2 - 1)) (wrap64 (x13_2 + 1))) = some r := by first | (rw [hy1323]; with_reducible exact H) | (have H2_ := (Option.bind_some _ _).symm.trans H; rw [hy1323]; with_reducible exact H2_) | (have H2_ := (Option.bind_some _ _).symm.trans H; with_reducible exact H2_) | with_reducible exact H | (rw [hy1323]; exact H) | exact H
                have Ny1323 := Aside0.mk hy1323
                clear hy1323
                have H' := Aside0.mk H
                clear H
                go_wp2_with (first | ((with_reducible refine gate_callee (f := 297) rfl ?_); refine goesL_ (some 40) rfl rfl Try.func297 (by kernel_rfl) rfl #[.slice A0 l0.length c0, .slice Ao12 x10_2.length co12, .int .i64 x13_2, .int .i64 a3] rfl (by (try simp only [List.map_toArray, List.map_cons, List.map_nil]); first | done | rfl | (simp only [List.length_drop, List.length_take]; rfl)) ?_; (with_reducible refine (spec_l5Pick.calls k2 _ _ l0 _ _ x10_2 x13_2 a3 t1313 _ ?side1 ?side2 ?side3 ?side4 A14.out).mono ?_); (case side1 => repeat (first | exact (Kd.C_below HR0.out HB.out) | (with_reducible refine Kd.C_alloc ?_ _) | (with_reducible refine Kd.C_drewN ?_ _) | (with_reducible refine Kd.C_drew ?_))); (case side2 => exact HC0.out); (case side3 => repeat (first | exact (Kd.R_reads' HO_10.out).2.2 | (with_reducible refine Kd.C_alloc ?_ _) | (with_reducible refine Kd.C_drewN ?_ _) | (with_reducible refine Kd.C_drew ?_))); (case side4 => exact (Kd.R_reads' HO_10.out).2.1); rintro e w' ⟨rfl, ⟨nd, rfl⟩⟩; refine ⟨_, rfl, ?_⟩; (try (rw [drewN_self wr]; generalize hq_ : World.drewN wr _ = wr; have n0_ : Aside0 (Kd.R (Kd.int .i64) 3 wr w.heap.size (fun _ => True) (.slice Ao12 x10_2.length co12) x10_2) := ⟨by rw [← hq_]; exact (by (with_reducible repeat (first | apply Kd.R_alloc | apply Kd.R_drewN | apply Kd.R_drew)); exact HO_10.out)⟩; have n1_ : Aside0 (Kd.R k237 237 wr w.heap.size (fun _ => True) u9 x9_2) := ⟨by rw [← hq_]; exact (by (with_reducible repeat (first | apply Kd.R_alloc | apply Kd.R_drewN | apply Kd.R_drew)); exact HO_9.out)⟩; have n2_ : Aside0 (Below w.heap.size w wr) := ⟨by rw [← hq_]; exact (by repeat (first | (with_reducible first | exact HB.out | apply below_alloc | apply pw_below_drewN | apply below_drew1) | exact HB.out))⟩; (try replace hx1312_0 := cell_at hq_ hx1312_0); (try replace hx25_0 := cell_at hq_ hx25_0); (try replace hf25_0 := frz_at hq_ hf25_0); (try replace hx1314_0 := cell_at hq_ hx1314_0); (try replace hx1314_1 := cell_at hq_ hx1314_1); (try replace hx1314_2 := cell_at hq_ hx1314_2); (try replace hx34_0 := cell_at hq_ hx34_0); (try replace hf34_0 := frz_at hq_ hf34_0); clear HO_10 HO_9 HB hq_; have HO_10 := n0_; have HO_9 := n1_; have HB := n2_; clear n0_ n1_ n2_)); obtain ⟨Ao35, co35, eo35⟩ := Kd.R_slice HO_9.out; subst eo35; have p1314 : 0 ≤ ((ji17) : Int) := of_decide_eq_true (by first | (with_reducible assumption) | assumption); have q1314 : (ji17) < (x9_2.length : Int) := of_decide_eq_true (by first | (with_reducible assumption) | assumption); obtain ⟨ad1314, e1314, hx1314_0, hx1314_1, hx1314_2⟩ := at_T237 (Kd.R_reads' HO_9.out).2.2 (ji17) p1314 q1314; cases e1314; replace p1314 := eq_true p1314; replace q1314 := eq_true q1314; have p1315 : 0 ≤ ((ji17) : Int) := of_decide_eq_true (by first | (with_reducible assumption) | assumption); have q1315 : (ji17) < (x9_2.length : Int) := of_decide_eq_true (by first | (with_reducible assumption) | assumption); obtain ⟨ad1315, e1315, hx1315_0, hx1315_1, hx1315_2⟩ := at_T237 (Kd.R_reads' HO_9.out).2.2 (ji17) p1315 q1315; obtain rfl : ad1314 = ad1315 := (by injection e1315); replace p1315 := eq_true p1315; replace q1315 := eq_true q1315) | ((with_reducible refine gate_builtin (b := .append) (xs := #[.tmp 72, .tmp 78]) rfl ?_); at_builtin; refine Kd.R_append k237 (w0 := w) w.heap.size rfl (.tmp 72) (.tmp 78) 234 237 (.agg #[(.int .i64 0), (.int .i64 0), (.int .i64 0)]) 24 rfl Try.underlying234 info237 rfl (by decide) (by omega) (.slice (some ad1314) x9_2.length co35) x9_2 (⟨t1313, x13_2, wrap64 (x13_2 + 1)⟩ : S237) [.int .i64 t1313, .int .i64 x13_2, .int .i64 (wrap64 (x13_2 + 1))] (fun _ => True) (fun _ => False) rfl rfl ?aP (fun _ hk => hk.elim) ?aF ?aO ?aB ?aS ?aL ?_; (case aP => exact k237_mkM _ _ _ (⟨t1313, x13_2, wrap64 (x13_2 + 1)⟩ : S237)); (case aB => exact (by repeat (first | (with_reducible first | exact HB.out | apply below_alloc | apply pw_below_drewN | apply below_drew1) | exact HB.out))); (case aF => exact (fun _ _ => trivial)); (case aO => exact (by (with_reducible repeat (first | apply Kd.R_alloc | apply Kd.R_drewN | apply Kd.R_drew)); exact HO_9.out)); (case aS => exact (below_size (by repeat (first | (with_reducible first | exact HB.out | apply below_alloc | apply pw_below_drewN | apply below_drew1) | exact HB.out)))); (case aL => have := LMc31.out; omega); intro v1320 w36 ho hb hg hat; rw [← Ny1319.out] at ho; have n0_ := Aside0.mk (Kd.R_over' (by (with_reducible repeat (first | apply Kd.R_alloc | apply Kd.R_drewN | apply Kd.R_drew)); exact HO_10.out) (Kd.R_typed (by (with_reducible repeat (first | apply Kd.R_alloc | apply Kd.R_drewN | apply Kd.R_drew)); exact HO_9.out)) (by decide) hg); have n1_ := Aside0.mk (hb); have n2_ := Aside0.mk (ho); clear HO_10; clear HB; clear HO_9; have HO_10 := n0_; have HB := n1_; have HO1321 := n2_; clear n0_ n1_ n2_; clear ho hb hg hat; have p1322 : 0 ≤ (t1313 : Int) := of_decide_eq_true (by first | (with_reducible assumption) | assumption); have q1322 : t1313 < (x10_2.length : Int) := of_decide_eq_true (by first | (with_reducible assumption) | assumption); obtain ⟨ad1322, e1322, hx1322_0⟩ := Kd.at_int (Kd.R_reads' HO_10.out).2.2 t1313 p1322 q1322; cases e1322; replace p1322 := eq_true p1322; replace q1322 := eq_true q1322; have p34 : 0 ≤ (t1313 : Int) := of_decide_eq_true (by first | (with_reducible assumption) | assumption); have q34 : (t1313 : Int) < ((x10_2.length : Int) : Int) := of_decide_eq_true (by first | (with_reducible assumption) | assumption); obtain ⟨go34, co34, eo34, gb34, gl34, cl34, HG34⟩ := Kd.R_form HO_10.out (by omega); (first | cases eo34 | (injection eo34 with ea_ en_ ec_; (first | subst ea_ | (injection ea_ with ea_; subst ea_)); subst ec_; clear en_)); have GB34 := Aside0.mk gb34; have GG34 := Aside0.mk HG34; clear gb34 gl34 HG34; (first | simp only [add_plain] at hx1322_0 | skip); obtain ⟨hx34_0, hf34_0⟩ := Kd.R_celln 0 HO_10.out (t1313 : Int) p34 q34; replace p34 := eq_true p34; replace q34 := eq_true q34; obtain ⟨hy37_, hz37_⟩ := Kd.R_celln 0 HO_10.out (t1313 : Int) (of_decide_eq_true (by first | (with_reducible assumption) | assumption)) (of_decide_eq_true (by first | (with_reducible assumption) | assumption)); have HP37 := Kd.R_putg HO_10.out (t1313 : Int) (wrap64 ((rd x10_2 t1313) - 1))) | ((with_reducible refine gate_store (t := 3) (p := 87) rfl ?_); refine store_event (t := 3) (p := 87) (v := ?vo_w38) (w1 := (w36.setCell ⟨go34, (t1313 : Int).toNat, none⟩ (.int .i64 (wrap64 ((rd x10_2 t1313) - 1))))) ?hg ?ho ?hn ?hr ?_; (case ho => rfl); (case hg => rfl); (case hn => rfl); (case hr => first | (go_simp; done) | (go_simp; rfl)); intro w38 hw; have hg : w36.grownBy w38 (some go34) := (by rw [hw]; exact HP37.2); have hp_ : Kd.R (Kd.int .i64) 3 w38 w.heap.size (fun _ => True) (.slice (some ⟨go34, 0, none⟩) x10_2.length co12) y1323 := (by rw [hw, Ny1323.out]; exact HP37.1); clear HP37; have n0_ := Aside0.mk (hp_); have n1_ := Aside0.mk (Kd.R_over' (v := (.slice (some ⟨go34, 0, none⟩) x10_2.length co12)) (by (with_reducible repeat (first | apply Kd.R_alloc | apply Kd.R_drewN | apply Kd.R_drew)); exact HO1321.out) (Kd.R_typed HO_10.out) (by decide) hg); have n2_ := Aside0.mk ((by rw [hw]; exact below_set (HB.out) GB34.out : Below w.heap.size w w38)); clear HO_10; clear HO1321; clear HB; have HO_10 := n0_; have HO1321 := n1_; have HB := n2_; clear n0_ n1_ n2_; clear hg hw hp_))
                (try simp only [← hl10_2])
                go_roundg k2
                case measure => have := HK1.out; have := HK2.out; omega
                case rel => exact ⟨(y1319), (y1323), (wrap64 (x11_2 - 1)), (wrap64 (x13_2 + 1)), (by first | rfl | (simp; done) | (simp [*]; done)), (by first | rfl | (simp; done) | (simp [*]; done)), H', ⟨by have := HK1.out; have := HK2.out; omega⟩, ⟨by (try simp only [hl10_2]); (with_reducible repeat (first | apply Kd.R_alloc | apply Kd.R_drewN | apply Kd.R_drew)); exact HO1321.out⟩, ⟨by (try simp only [hl10_2]); (with_reducible repeat (first | apply Kd.R_alloc | apply Kd.R_drewN | apply Kd.R_drew)); exact HO_10.out⟩, ⟨by repeat (first | (with_reducible first | exact HB.out | apply below_alloc | apply pw_below_drewN | apply below_drew1) | exact HB.out)⟩⟩
               ·rw [if_neg c33] at H
                exact absurd H (by simp)
              ·rw [if_neg c32] at H
               exact absurd H (by simp)
             ·rw [if_neg c31] at H
              exact absurd H (by simp)
           ·rw [if_neg c20] at H
            have c20b0 : (((rd_T237 x9_2 (ji17)).f0) == t1313) = false := beq_eq_false_iff_ne.mpr c20
            have c20b1 : (((rd_T237 x9_2 (ji17)).f0) != t1313) = true := bne_iff_ne.mpr c20
            by_cases c39 : x9_2.length < 5864062014805
            ·rw [if_pos c39] at H
             have LMc39 := Aside0.mk c39
             clear c39
             obtain ⟨y1324, hy1324⟩ : ∃ y_ : List (S237), y_ = (x9_2 ++ [(⟨t1313, x13_2, wrap64 (x13_2 + 1)⟩ : S237)]) := ⟨_, rfl⟩
             replace H : (if 0 ≤ t1313 then (if t1313 < (x10_2.length : Int) then (spec_l5Choose.l1 k2 l0 a3 y1324 (x10_2.set (t1313 : Int).toNat (wrap64 ((rd x10_2 t1313) - 1))) (wrap64 (x11_2 - 1)) (wrap64 (x13_2 + 1))) else (none)) else (none)) = some r := by first | (rw [hy1324]; with_reducible exact H) | (have H2_ := (Option.bind_some _ _).symm.trans H; rw [hy1324]; with_reducible exact H2_) | (have H2_ := (Option.bind_some _ _).symm.trans H; with_reducible exact H2_) | with_reducible exact H | (rw [hy1324]; exact H) | exact H
             have Ny1324 := Aside0.mk hy1324
             clear hy1324
             by_cases c40 : 0 ≤ t1313
             ·rw [if_pos c40] at H
              have c40b0 : decide (0 ≤ t1313) = true := decide_eq_true c40
              clear c40
              by_cases c41 : t1313 < (x10_2.length : Int)
              ·rw [if_pos c41] at H
               have c41b0 : decide (t1313 < (x10_2.length : Int)) = true := decide_eq_true c41
               clear c41
               obtain ⟨y1328, hy1328⟩ : ∃ y_ : List Int, y_ = (x10_2.set (t1313 : Int).toNat (wrap64 ((rd x10_2 t1313) - 1))) := ⟨_, rfl⟩
               replace H : (spec_l5Choose.l1 k2 l0 a3 y1324 y1328 (wrap64 (x11_2 - 1)) (wrap64 (x13_2 + 1))) = some r := by first | (rw [hy1328]; with_reducible exact H) | (have H2_ := (Option.bind_some _ _).symm.trans H; rw [hy1328]; with_reducible exact H2_) | (have H2_ := (Option.bind_some _ _).symm.trans H; with_reducible exact H2_) | with_reducible exact H | (rw [hy1328]; exact H) | exact H
               have Ny1328 := Aside0.mk hy1328
               clear hy1328
               have H' := Aside0.mk H
               clear H
               go_wp2_with (first | ((with_reducible refine gate_callee (f := 297) rfl ?_); refine goesL_ (some 40) rfl rfl Try.func297 (by kernel_rfl) rfl #[.slice A0 l0.length c0, .slice Ao12 x10_2.length co12, .int .i64 x13_2, .int .i64 a3] rfl (by (try simp only [List.map_toArray, List.map_cons, List.map_nil]); first | done | rfl | (simp only [List.length_drop, List.length_take]; rfl)) ?_; (with_reducible refine (spec_l5Pick.calls k2 _ _ l0 _ _ x10_2 x13_2 a3 t1313 _ ?side1 ?side2 ?side3 ?side4 A14.out).mono ?_); (case side1 => repeat (first | exact (Kd.C_below HR0.out HB.out) | (with_reducible refine Kd.C_alloc ?_ _) | (with_reducible refine Kd.C_drewN ?_ _) | (with_reducible refine Kd.C_drew ?_))); (case side2 => exact HC0.out); (case side3 => repeat (first | exact (Kd.R_reads' HO_10.out).2.2 | (with_reducible refine Kd.C_alloc ?_ _) | (with_reducible refine Kd.C_drewN ?_ _) | (with_reducible refine Kd.C_drew ?_))); (case side4 => exact (Kd.R_reads' HO_10.out).2.1); rintro e w' ⟨rfl, ⟨nd, rfl⟩⟩; refine ⟨_, rfl, ?_⟩; (try (rw [drewN_self wr]; generalize hq_ : World.drewN wr _ = wr; have n0_ : Aside0 (Kd.R (Kd.int .i64) 3 wr w.heap.size (fun _ => True) (.slice Ao12 x10_2.length co12) x10_2) := ⟨by rw [← hq_]; exact (by (with_reducible repeat (first | apply Kd.R_alloc | apply Kd.R_drewN | apply Kd.R_drew)); exact HO_10.out)⟩; have n1_ : Aside0 (Kd.R k237 237 wr w.heap.size (fun _ => True) u9 x9_2) := ⟨by rw [← hq_]; exact (by (with_reducible repeat (first | apply Kd.R_alloc | apply Kd.R_drewN | apply Kd.R_drew)); exact HO_9.out)⟩; have n2_ : Aside0 (Below w.heap.size w wr) := ⟨by rw [← hq_]; exact (by repeat (first | (with_reducible first | exact HB.out | apply below_alloc | apply pw_below_drewN | apply below_drew1) | exact HB.out))⟩; (try replace hx1312_0 := cell_at hq_ hx1312_0); (try replace hx25_0 := cell_at hq_ hx25_0); (try replace hf25_0 := frz_at hq_ hf25_0); (try replace hx1314_0 := cell_at hq_ hx1314_0); (try replace hx1314_1 := cell_at hq_ hx1314_1); (try replace hx1314_2 := cell_at hq_ hx1314_2); (try replace hx34_0 := cell_at hq_ hx34_0); (try replace hf34_0 := frz_at hq_ hf34_0); (try replace hx42_0 := cell_at hq_ hx42_0); (try replace hf42_0 := frz_at hq_ hf42_0); clear HO_10 HO_9 HB hq_; have HO_10 := n0_; have HO_9 := n1_; have HB := n2_; clear n0_ n1_ n2_)); obtain ⟨Ao43, co43, eo43⟩ := Kd.R_slice HO_9.out; subst eo43; have p1314 : 0 ≤ ((ji17) : Int) := of_decide_eq_true (by first | (with_reducible assumption) | assumption); have q1314 : (ji17) < (x9_2.length : Int) := of_decide_eq_true (by first | (with_reducible assumption) | assumption); obtain ⟨ad1314, e1314, hx1314_0, hx1314_1, hx1314_2⟩ := at_T237 (Kd.R_reads' HO_9.out).2.2 (ji17) p1314 q1314; cases e1314; replace p1314 := eq_true p1314; replace q1314 := eq_true q1314) | ((with_reducible refine gate_builtin (b := .append) (xs := #[.tmp 72, .tmp 78]) rfl ?_); at_builtin; refine Kd.R_append k237 (w0 := w) w.heap.size rfl (.tmp 72) (.tmp 78) 234 237 (.agg #[(.int .i64 0), (.int .i64 0), (.int .i64 0)]) 24 rfl Try.underlying234 info237 rfl (by decide) (by omega) (.slice (some ad1314) x9_2.length co43) x9_2 (⟨t1313, x13_2, wrap64 (x13_2 + 1)⟩ : S237) [.int .i64 t1313, .int .i64 x13_2, .int .i64 (wrap64 (x13_2 + 1))] (fun _ => True) (fun _ => False) rfl rfl ?aP (fun _ hk => hk.elim) ?aF ?aO ?aB ?aS ?aL ?_; (case aP => exact k237_mkM _ _ _ (⟨t1313, x13_2, wrap64 (x13_2 + 1)⟩ : S237)); (case aB => exact (by repeat (first | (with_reducible first | exact HB.out | apply below_alloc | apply pw_below_drewN | apply below_drew1) | exact HB.out))); (case aF => exact (fun _ _ => trivial)); (case aO => exact (by (with_reducible repeat (first | apply Kd.R_alloc | apply Kd.R_drewN | apply Kd.R_drew)); exact HO_9.out)); (case aS => exact (below_size (by repeat (first | (with_reducible first | exact HB.out | apply below_alloc | apply pw_below_drewN | apply below_drew1) | exact HB.out)))); (case aL => have := LMc39.out; omega); intro v1325 w44 ho hb hg hat; rw [← Ny1324.out] at ho; have n0_ := Aside0.mk (Kd.R_over' (by (with_reducible repeat (first | apply Kd.R_alloc | apply Kd.R_drewN | apply Kd.R_drew)); exact HO_10.out) (Kd.R_typed (by (with_reducible repeat (first | apply Kd.R_alloc | apply Kd.R_drewN | apply Kd.R_drew)); exact HO_9.out)) (by decide) hg); have n1_ := Aside0.mk (hb); have n2_ := Aside0.mk (ho); clear HO_10; clear HB; clear HO_9; have HO_10 := n0_; have HB := n1_; have HO1326 := n2_; clear n0_ n1_ n2_; clear ho hb hg hat; have p1327 : 0 ≤ (t1313 : Int) := of_decide_eq_true (by first | (with_reducible assumption) | assumption); have q1327 : t1313 < (x10_2.length : Int) := of_decide_eq_true (by first | (with_reducible assumption) | assumption); obtain ⟨ad1327, e1327, hx1327_0⟩ := Kd.at_int (Kd.R_reads' HO_10.out).2.2 t1313 p1327 q1327; cases e1327; replace p1327 := eq_true p1327; replace q1327 := eq_true q1327; have p42 : 0 ≤ (t1313 : Int) := of_decide_eq_true (by first | (with_reducible assumption) | assumption); have q42 : (t1313 : Int) < ((x10_2.length : Int) : Int) := of_decide_eq_true (by first | (with_reducible assumption) | assumption); obtain ⟨go42, co42, eo42, gb42, gl42, cl42, HG42⟩ := Kd.R_form HO_10.out (by omega); (first | cases eo42 | (injection eo42 with ea_ en_ ec_; (first | subst ea_ | (injection ea_ with ea_; subst ea_)); subst ec_; clear en_)); have GB42 := Aside0.mk gb42; have GG42 := Aside0.mk HG42; clear gb42 gl42 HG42; (first | simp only [add_plain] at hx1327_0 | skip); obtain ⟨hx42_0, hf42_0⟩ := Kd.R_celln 0 HO_10.out (t1313 : Int) p42 q42; replace p42 := eq_true p42; replace q42 := eq_true q42; obtain ⟨hy45_, hz45_⟩ := Kd.R_celln 0 HO_10.out (t1313 : Int) (of_decide_eq_true (by first | (with_reducible assumption) | assumption)) (of_decide_eq_true (by first | (with_reducible assumption) | assumption)); have HP45 := Kd.R_putg HO_10.out (t1313 : Int) (wrap64 ((rd x10_2 t1313) - 1))) | ((with_reducible refine gate_store (t := 3) (p := 87) rfl ?_); refine store_event (t := 3) (p := 87) (v := ?vo_w46) (w1 := (w44.setCell ⟨go42, (t1313 : Int).toNat, none⟩ (.int .i64 (wrap64 ((rd x10_2 t1313) - 1))))) ?hg ?ho ?hn ?hr ?_; (case ho => rfl); (case hg => rfl); (case hn => rfl); (case hr => first | (go_simp; done) | (go_simp; rfl)); intro w46 hw; have hg : w44.grownBy w46 (some go42) := (by rw [hw]; exact HP45.2); have hp_ : Kd.R (Kd.int .i64) 3 w46 w.heap.size (fun _ => True) (.slice (some ⟨go42, 0, none⟩) x10_2.length co12) y1328 := (by rw [hw, Ny1328.out]; exact HP45.1); clear HP45; have n0_ := Aside0.mk (hp_); have n1_ := Aside0.mk (Kd.R_over' (v := (.slice (some ⟨go42, 0, none⟩) x10_2.length co12)) (by (with_reducible repeat (first | apply Kd.R_alloc | apply Kd.R_drewN | apply Kd.R_drew)); exact HO1326.out) (Kd.R_typed HO_10.out) (by decide) hg); have n2_ := Aside0.mk ((by rw [hw]; exact below_set (HB.out) GB42.out : Below w.heap.size w w46)); clear HO_10; clear HO1326; clear HB; have HO_10 := n0_; have HO1326 := n1_; have HB := n2_; clear n0_ n1_ n2_; clear hg hw hp_))
               (try simp only [← hl10_2])
               go_roundg k2
               case measure => have := HK1.out; have := HK2.out; omega
               case rel => exact ⟨(y1324), (y1328), (wrap64 (x11_2 - 1)), (wrap64 (x13_2 + 1)), (by first | rfl | (simp; done) | (simp [*]; done)), (by first | rfl | (simp; done) | (simp [*]; done)), H', ⟨by have := HK1.out; have := HK2.out; omega⟩, ⟨by (try simp only [hl10_2]); (with_reducible repeat (first | apply Kd.R_alloc | apply Kd.R_drewN | apply Kd.R_drew)); exact HO1326.out⟩, ⟨by (try simp only [hl10_2]); (with_reducible repeat (first | apply Kd.R_alloc | apply Kd.R_drewN | apply Kd.R_drew)); exact HO_10.out⟩, ⟨by repeat (first | (with_reducible first | exact HB.out | apply below_alloc | apply pw_below_drewN | apply below_drew1) | exact HB.out)⟩⟩
              ·rw [if_neg c41] at H
               exact absurd H (by simp)
             ·rw [if_neg c40] at H
              exact absurd H (by simp)
            ·rw [if_neg c39] at H
             exact absurd H (by simp)
          ·rw [if_neg c19] at H
           exact absurd H (by simp)
         ·rw [if_neg c18] at H
          exact absurd H (by simp)
        ·rw [if_neg c16] at H
         have c16b0 : decide (0 ≤ (wrap64 ((x9_2.length : Int) - 1))) = false := decide_eq_false c16
         clear c16
         by_cases c47 : x9_2.length < 5864062014805
         ·rw [if_pos c47] at H
          have LMc47 := Aside0.mk c47
          clear c47
          obtain ⟨y1329, hy1329⟩ : ∃ y_ : List (S237), y_ = (x9_2 ++ [(⟨t1313, x13_2, wrap64 (x13_2 + 1)⟩ : S237)]) := ⟨_, rfl⟩
          replace H : (if 0 ≤ t1313 then (if t1313 < (x10_2.length : Int) then (spec_l5Choose.l1 k2 l0 a3 y1329 (x10_2.set (t1313 : Int).toNat (wrap64 ((rd x10_2 t1313) - 1))) (wrap64 (x11_2 - 1)) (wrap64 (x13_2 + 1))) else (none)) else (none)) = some r := by first | (rw [hy1329]; with_reducible exact H) | (have H2_ := (Option.bind_some _ _).symm.trans H; rw [hy1329]; with_reducible exact H2_) | (have H2_ := (Option.bind_some _ _).symm.trans H; with_reducible exact H2_) | with_reducible exact H | (rw [hy1329]; exact H) | exact H
          have Ny1329 := Aside0.mk hy1329
          clear hy1329
          by_cases c48 : 0 ≤ t1313
          ·rw [if_pos c48] at H
           have c48b0 : decide (0 ≤ t1313) = true := decide_eq_true c48
           clear c48
           by_cases c49 : t1313 < (x10_2.length : Int)
           ·rw [if_pos c49] at H
            have c49b0 : decide (t1313 < (x10_2.length : Int)) = true := decide_eq_true c49
            clear c49
            obtain ⟨y1333, hy1333⟩ : ∃ y_ : List Int, y_ = (x10_2.set (t1313 : Int).toNat (wrap64 ((rd x10_2 t1313) - 1))) := ⟨_, rfl⟩
            replace H : (spec_l5Choose.l1 k2 l0 a3 y1329 y1333 (wrap64 (x11_2 - 1)) (wrap64 (x13_2 + 1))) = some r := by first | (rw [hy1333]; with_reducible exact H) | (have H2_ := (Option.bind_some _ _).symm.trans H; rw [hy1333]; with_reducible exact H2_) | (have H2_ := (Option.bind_some _ _).symm.trans H; with_reducible exact H2_) | with_reducible exact H | (rw [hy1333]; exact H) | exact H
            have Ny1333 := Aside0.mk hy1333
            clear hy1333
            have H' := Aside0.mk H
            clear H
            go_wp2_with (first | ((with_reducible refine gate_callee (f := 297) rfl ?_); refine goesL_ (some 40) rfl rfl Try.func297 (by kernel_rfl) rfl #[.slice A0 l0.length c0, .slice Ao12 x10_2.length co12, .int .i64 x13_2, .int .i64 a3] rfl (by (try simp only [List.map_toArray, List.map_cons, List.map_nil]); first | done | rfl | (simp only [List.length_drop, List.length_take]; rfl)) ?_; (with_reducible refine (spec_l5Pick.calls k2 _ _ l0 _ _ x10_2 x13_2 a3 t1313 _ ?side1 ?side2 ?side3 ?side4 A14.out).mono ?_); (case side1 => repeat (first | exact (Kd.C_below HR0.out HB.out) | (with_reducible refine Kd.C_alloc ?_ _) | (with_reducible refine Kd.C_drewN ?_ _) | (with_reducible refine Kd.C_drew ?_))); (case side2 => exact HC0.out); (case side3 => repeat (first | exact (Kd.R_reads' HO_10.out).2.2 | (with_reducible refine Kd.C_alloc ?_ _) | (with_reducible refine Kd.C_drewN ?_ _) | (with_reducible refine Kd.C_drew ?_))); (case side4 => exact (Kd.R_reads' HO_10.out).2.1); rintro e w' ⟨rfl, ⟨nd, rfl⟩⟩; refine ⟨_, rfl, ?_⟩; (try (rw [drewN_self wr]; generalize hq_ : World.drewN wr _ = wr; have n0_ : Aside0 (Kd.R (Kd.int .i64) 3 wr w.heap.size (fun _ => True) (.slice Ao12 x10_2.length co12) x10_2) := ⟨by rw [← hq_]; exact (by (with_reducible repeat (first | apply Kd.R_alloc | apply Kd.R_drewN | apply Kd.R_drew)); exact HO_10.out)⟩; have n1_ : Aside0 (Kd.R k237 237 wr w.heap.size (fun _ => True) u9 x9_2) := ⟨by rw [← hq_]; exact (by (with_reducible repeat (first | apply Kd.R_alloc | apply Kd.R_drewN | apply Kd.R_drew)); exact HO_9.out)⟩; have n2_ : Aside0 (Below w.heap.size w wr) := ⟨by rw [← hq_]; exact (by repeat (first | (with_reducible first | exact HB.out | apply below_alloc | apply pw_below_drewN | apply below_drew1) | exact HB.out))⟩; (try replace hx1312_0 := cell_at hq_ hx1312_0); (try replace hx25_0 := cell_at hq_ hx25_0); (try replace hf25_0 := frz_at hq_ hf25_0); (try replace hx1314_0 := cell_at hq_ hx1314_0); (try replace hx1314_1 := cell_at hq_ hx1314_1); (try replace hx1314_2 := cell_at hq_ hx1314_2); (try replace hx34_0 := cell_at hq_ hx34_0); (try replace hf34_0 := frz_at hq_ hf34_0); (try replace hx42_0 := cell_at hq_ hx42_0); (try replace hf42_0 := frz_at hq_ hf42_0); (try replace hx50_0 := cell_at hq_ hx50_0); (try replace hf50_0 := frz_at hq_ hf50_0); (try replace hx1332_0 := cell_at hq_ hx1332_0); clear HO_10 HO_9 HB hq_; have HO_10 := n0_; have HO_9 := n1_; have HB := n2_; clear n0_ n1_ n2_)); obtain ⟨Ao51, co51, eo51⟩ := Kd.R_slice HO_9.out; subst eo51) | ((with_reducible refine gate_builtin (b := .append) (xs := #[.tmp 72, .tmp 78]) rfl ?_); at_builtin; refine Kd.R_append k237 (w0 := w) w.heap.size rfl (.tmp 72) (.tmp 78) 234 237 (.agg #[(.int .i64 0), (.int .i64 0), (.int .i64 0)]) 24 rfl Try.underlying234 info237 rfl (by decide) (by omega) (.slice Ao51 x9_2.length co51) x9_2 (⟨t1313, x13_2, wrap64 (x13_2 + 1)⟩ : S237) [.int .i64 t1313, .int .i64 x13_2, .int .i64 (wrap64 (x13_2 + 1))] (fun _ => True) (fun _ => False) rfl rfl ?aP (fun _ hk => hk.elim) ?aF ?aO ?aB ?aS ?aL ?_; (case aP => exact k237_mkM _ _ _ (⟨t1313, x13_2, wrap64 (x13_2 + 1)⟩ : S237)); (case aB => exact (by repeat (first | (with_reducible first | exact HB.out | apply below_alloc | apply pw_below_drewN | apply below_drew1) | exact HB.out))); (case aF => exact (fun _ _ => trivial)); (case aO => exact (by (with_reducible repeat (first | apply Kd.R_alloc | apply Kd.R_drewN | apply Kd.R_drew)); exact HO_9.out)); (case aS => exact (below_size (by repeat (first | (with_reducible first | exact HB.out | apply below_alloc | apply pw_below_drewN | apply below_drew1) | exact HB.out)))); (case aL => have := LMc47.out; omega); intro v1330 w52 ho hb hg hat; rw [← Ny1329.out] at ho; have n0_ := Aside0.mk (Kd.R_over' (by (with_reducible repeat (first | apply Kd.R_alloc | apply Kd.R_drewN | apply Kd.R_drew)); exact HO_10.out) (Kd.R_typed (by (with_reducible repeat (first | apply Kd.R_alloc | apply Kd.R_drewN | apply Kd.R_drew)); exact HO_9.out)) (by decide) hg); have n1_ := Aside0.mk (hb); have n2_ := Aside0.mk (ho); clear HO_10; clear HB; clear HO_9; have HO_10 := n0_; have HB := n1_; have HO1331 := n2_; clear n0_ n1_ n2_; clear ho hb hg hat; have p1332 : 0 ≤ (t1313 : Int) := of_decide_eq_true (by first | (with_reducible assumption) | assumption); have q1332 : t1313 < (x10_2.length : Int) := of_decide_eq_true (by first | (with_reducible assumption) | assumption); obtain ⟨ad1332, e1332, hx1332_0⟩ := Kd.at_int (Kd.R_reads' HO_10.out).2.2 t1313 p1332 q1332; cases e1332; replace p1332 := eq_true p1332; replace q1332 := eq_true q1332; have p50 : 0 ≤ (t1313 : Int) := of_decide_eq_true (by first | (with_reducible assumption) | assumption); have q50 : (t1313 : Int) < ((x10_2.length : Int) : Int) := of_decide_eq_true (by first | (with_reducible assumption) | assumption); obtain ⟨go50, co50, eo50, gb50, gl50, cl50, HG50⟩ := Kd.R_form HO_10.out (by omega); (first | cases eo50 | (injection eo50 with ea_ en_ ec_; (first | subst ea_ | (injection ea_ with ea_; subst ea_)); subst ec_; clear en_)); have GB50 := Aside0.mk gb50; have GG50 := Aside0.mk HG50; clear gb50 gl50 HG50; (first | simp only [add_plain] at hx1332_0 | skip); obtain ⟨hx50_0, hf50_0⟩ := Kd.R_celln 0 HO_10.out (t1313 : Int) p50 q50; replace p50 := eq_true p50; replace q50 := eq_true q50; obtain ⟨hy53_, hz53_⟩ := Kd.R_celln 0 HO_10.out (t1313 : Int) (of_decide_eq_true (by first | (with_reducible assumption) | assumption)) (of_decide_eq_true (by first | (with_reducible assumption) | assumption)); have HP53 := Kd.R_putg HO_10.out (t1313 : Int) (wrap64 ((rd x10_2 t1313) - 1))) | ((with_reducible refine gate_store (t := 3) (p := 87) rfl ?_); refine store_event (t := 3) (p := 87) (v := ?vo_w54) (w1 := (w52.setCell ⟨go50, (t1313 : Int).toNat, none⟩ (.int .i64 (wrap64 ((rd x10_2 t1313) - 1))))) ?hg ?ho ?hn ?hr ?_; (case ho => rfl); (case hg => rfl); (case hn => rfl); (case hr => first | (go_simp; done) | (go_simp; rfl)); intro w54 hw; have hg : w52.grownBy w54 (some go50) := (by rw [hw]; exact HP53.2); have hp_ : Kd.R (Kd.int .i64) 3 w54 w.heap.size (fun _ => True) (.slice (some ⟨go50, 0, none⟩) x10_2.length co12) y1333 := (by rw [hw, Ny1333.out]; exact HP53.1); clear HP53; have n0_ := Aside0.mk (hp_); have n1_ := Aside0.mk (Kd.R_over' (v := (.slice (some ⟨go50, 0, none⟩) x10_2.length co12)) (by (with_reducible repeat (first | apply Kd.R_alloc | apply Kd.R_drewN | apply Kd.R_drew)); exact HO1331.out) (Kd.R_typed HO_10.out) (by decide) hg); have n2_ := Aside0.mk ((by rw [hw]; exact below_set (HB.out) GB50.out : Below w.heap.size w w54)); clear HO_10; clear HO1331; clear HB; have HO_10 := n0_; have HO1331 := n1_; have HB := n2_; clear n0_ n1_ n2_; clear hg hw hp_))
            (try simp only [← hl10_2])
            go_roundg k2
            case measure => have := HK1.out; have := HK2.out; omega
            case rel => exact ⟨(y1329), (y1333), (wrap64 (x11_2 - 1)), (wrap64 (x13_2 + 1)), (by first | rfl | (simp; done) | (simp [*]; done)), (by first | rfl | (simp; done) | (simp [*]; done)), H', ⟨by have := HK1.out; have := HK2.out; omega⟩, ⟨by (try simp only [hl10_2]); (with_reducible repeat (first | apply Kd.R_alloc | apply Kd.R_drewN | apply Kd.R_drew)); exact HO1331.out⟩, ⟨by (try simp only [hl10_2]); (with_reducible repeat (first | apply Kd.R_alloc | apply Kd.R_drewN | apply Kd.R_drew)); exact HO_10.out⟩, ⟨by repeat (first | (with_reducible first | exact HB.out | apply below_alloc | apply pw_below_drewN | apply below_drew1) | exact HB.out)⟩⟩
           ·rw [if_neg c49] at H
            exact absurd H (by simp)
          ·rw [if_neg c48] at H
           exact absurd H (by simp)
         ·rw [if_neg c47] at H
          exact absurd H (by simp)
      ·rw [if_neg c13] at H
       have c13b0 : decide (0 < x11_2) = false := decide_eq_false c13
       clear c13
       obtain rfl := Option.some.inj H
       go_wp2
       go_ret
       exact ⟨_, by first | rfl | (simp [errW_none, errW_some] <;> rfl) | (simp [*, errW_none, errW_some] <;> rfl), by (with_reducible repeat (first | apply Kd.R_alloc | apply Kd.R_drewN | apply Kd.R_drew)); exact HO_9.out, by repeat (first | (with_reducible first | exact HB.out | apply below_alloc | apply pw_below_drewN | apply below_drew1) | exact HB.out)⟩

/-! ### spec_l5Bound: function 165 -/
abbrev q165_0 : Array Bool := #[false, false, false, false, false, false, false, false, false, false, false, false, false, false]
abbrev q165_1 : Array Bool := #[true, false, false, false, false, false, false, false, false, false, false, false, false, false]
abbrev q165_2 : Array Bool := #[true, true, false, false, false, false, false, false, false, false, false, false, false, false]
abbrev q165_3 : Array Bool := #[true, true, true, false, false, false, false, false, false, false, false, false, false, false]
abbrev q165_4 : Array Bool := #[true, true, true, true, false, false, false, false, false, false, false, false, false, false]
abbrev q165_5 : Array Bool := #[true, true, true, true, true, false, false, false, false, false, false, false, false, false]
abbrev q165_6 : Array Bool := #[true, true, true, true, true, false, false, true, false, false, false, false, false, false]
abbrev q165_7 : Array Bool := #[true, true, true, true, true, false, false, true, true, false, false, false, false, false]
abbrev q165_8 : Array Bool := #[true, true, true, true, true, false, false, true, true, true, false, false, false, false]
abbrev q165_9 : Array Bool := #[true, true, true, true, true, false, false, true, true, true, true, false, false, false]
abbrev q165_10 : Array Bool := #[true, true, true, true, true, true, false, true, true, true, true, false, false, false]
abbrev q165_11 : Array Bool := #[true, true, true, true, true, true, false, true, true, true, true, true, false, false]
abbrev q165_12 : Array Bool := #[true, true, true, true, true, true, true, true, true, true, true, true, false, false]
abbrev q165_13 : Array Bool := #[true, true, true, true, true, true, true, true, true, true, true, true, true, false]
abbrev q165_14 : Array Bool := #[true, true, true, true, true, true, true, true, true, true, true, true, true, true]
abbrev q165_15 : Array Bool := #[false, false, false, false, false, false, false, false, false, false, false, false, false]
abbrev q165_16 : Array Bool := #[true, false, false, false, false, false, false, false, false, false, false, false, false]
abbrev q165_17 : Array Bool := #[true, true, false, false, false, false, false, false, false, false, false, false, false]
abbrev q165_18 : Array Bool := #[true, true, true, false, false, false, false, false, false, false, false, false, false]
abbrev q165_19 : Array Bool := #[true, true, true, true, false, false, false, false, false, false, false, false, false]
abbrev q165_20 : Array Bool := #[true, true, true, true, true, false, false, false, false, false, false, false, false]
abbrev q165_21 : Array Bool := #[true, true, true, true, true, false, true, false, false, false, false, false, false]
abbrev q165_22 : Array Bool := #[true, true, true, true, true, false, true, true, false, false, false, false, false]
abbrev q165_23 : Array Bool := #[true, true, true, true, true, false, true, true, true, false, false, false, false]
abbrev q165_24 : Array Bool := #[true, true, true, true, true, false, true, true, true, true, false, false, false]
abbrev q165_25 : Array Bool := #[true, true, true, true, true, true, true, true, true, true, false, false, false]
abbrev q165_26 : Array Bool := #[true, true, true, true, true, true, true, true, true, true, true, false, false]
abbrev q165_27 : Array Bool := #[true, true, true, true, true, true, true, true, true, true, true, true, false]
abbrev q165_28 : Array Bool := #[true, true, true, true, true, true, true, true, true, true, true, true, true]
mutual
def spec_l5Bound.l0 : Nat → List (S38) → List Int → Int → List Int → Int → List Int → Int → Option (Int)
 | 0, _, _, _, _, _, _, _ => none
 | k + 1, x0, x1, x2, x7, x8, x9, x10 => if x10 < (x1.length : Int) then (if 0 ≤ x10 then (if 0 ≤ (rd x1 x10) then (if (rd x1 x10) < (x0.length : Int) then ((spec_l1Most.f x8 ((rd_T38 x0 (rd x1 x10)).f2)).bind fun t1342 => (if (rd x1 x10) < (x9.length : Int) then (if (rd x1 x10) < (x7.length : Int) then (spec_l5Bound.l0 k x0 x1 x2 (x7.set ((rd x1 x10) : Int).toNat 0) (wrap64 (t1342 + ((rd_T38 x0 (rd x1 x10)).f0))) (x9.set ((rd x1 x10) : Int).toNat (wrap64 (t1342 + ((rd_T38 x0 (rd x1 x10)).f0)))) (wrap64 (x10 + 1))) else (none)) else (none))) else (none)) else (none)) else (none)) else ((spec_l5Choose.f k x0 x7 x8 x2).bind fun t1346 => (spec_l5Bound.l1 k x0 x2 x9 t1346 0))
def spec_l5Bound.l1 : Nat → List (S38) → Int → List Int → List (S237) → Int → Option (Int)
 | 0, _, _, _, _, _ => none
 | k + 1, x0, x2, x9, x12, x13 => if x13 < (x12.length : Int) then (if 0 ≤ x13 then (if 0 ≤ ((rd_T237 x12 x13).f0) then (if ((rd_T237 x12 x13).f0) < (x9.length : Int) then (spec_l5Bound.l1 k x0 x2 (x9.set (((rd_T237 x12 x13).f0) : Int).toNat ((rd_T237 x12 x13).f2)) x12 (wrap64 (x13 + 1))) else (none)) else (none)) else (none)) else ((spec_l2Of.f k x0 x9 x2).bind fun t1352 => (some t1352))
end
def spec_l5Bound.f (k : Nat) (l0 : List (S38)) (l1 : List Int) (a2 : Int) : Option (Int) := (spec_l5Rests.f k l0).bind fun t1334 => (if 0 ≤ (l0.length : Int) then (if ((l0.length : Int) : Int).toNat ≤ 35184372088832 then (spec_l5Bound.l0 k l0 l1 a2 t1334 0 (List.replicate ((l0.length : Int) : Int).toNat 0) 0) else (none)) else (none))
theorem spec_l5Bound.mono_l : ∀ k, (∀ y0 y1 y2 y3 y4 y5 y6, LeO (spec_l5Bound.l0 k y0 y1 y2 y3 y4 y5 y6) (spec_l5Bound.l0 (k + 1) y0 y1 y2 y3 y4 y5 y6)) ∧ (∀ y0 y1 y2 y3 y4, LeO (spec_l5Bound.l1 k y0 y1 y2 y3 y4) (spec_l5Bound.l1 (k + 1) y0 y1 y2 y3 y4))
 | 0 => ⟨fun _ _ _ _ _ _ _ r h => by simp [spec_l5Bound.l0] at h, fun _ _ _ _ _ r h => by simp [spec_l5Bound.l1] at h⟩
 | k + 1 => by
  obtain ⟨ih0, ih1⟩ := spec_l5Bound.mono_l k
  refine ⟨?_, ?_⟩
  ·intro y0 y1 y2 y3 y4 y5 y6
   unfold spec_l5Bound.l0
   repeat' first
   | (with_reducible exact ih0 _ _ _ _ _ _ _)
   | (with_reducible exact ih1 _ _ _ _ _)
   | (with_reducible exact spec_l2Of.mono _ _ _ _)
   | (with_reducible exact spec_l5Choose.mono _ _ _ _ _)
   | (with_reducible exact spec_l5Rests.mono _ _)
   | (with_reducible exact LeO.refl _)
   | (with_reducible exact LeO.none _)
   | (with_reducible refine LeO.ite ?_ ?_)
   | (with_reducible refine LeO.bind ?_ (fun _ => ?_))
   | exact ih0 _ _ _ _ _ _ _
   | exact ih1 _ _ _ _ _
   | exact spec_l2Of.mono _ _ _ _
   | exact spec_l5Choose.mono _ _ _ _ _
   | exact spec_l5Rests.mono _ _
   | exact LeO.none _
   | refine LeO.ite ?_ ?_
   | refine LeO.bind ?_ (fun _ => ?_)
  ·intro y0 y1 y2 y3 y4
   unfold spec_l5Bound.l1
   repeat' first
   | (with_reducible exact ih0 _ _ _ _ _ _ _)
   | (with_reducible exact ih1 _ _ _ _ _)
   | (with_reducible exact spec_l2Of.mono _ _ _ _)
   | (with_reducible exact spec_l5Choose.mono _ _ _ _ _)
   | (with_reducible exact spec_l5Rests.mono _ _)
   | (with_reducible exact LeO.refl _)
   | (with_reducible exact LeO.none _)
   | (with_reducible refine LeO.ite ?_ ?_)
   | (with_reducible refine LeO.bind ?_ (fun _ => ?_))
   | exact ih0 _ _ _ _ _ _ _
   | exact ih1 _ _ _ _ _
   | exact spec_l2Of.mono _ _ _ _
   | exact spec_l5Choose.mono _ _ _ _ _
   | exact spec_l5Rests.mono _ _
   | exact LeO.none _
   | refine LeO.ite ?_ ?_
   | refine LeO.bind ?_ (fun _ => ?_)
theorem spec_l5Bound.mono : ∀ a0 a1 a2 k, LeO (spec_l5Bound.f k a0 a1 a2) (spec_l5Bound.f (k + 1) a0 a1 a2) := by
 intro a0 a1 a2 k
 obtain ⟨ih0, ih1⟩ := spec_l5Bound.mono_l k
 unfold spec_l5Bound.f
 repeat' first
   | (with_reducible exact ih0 _ _ _ _ _ _ _)
   | (with_reducible exact ih1 _ _ _ _ _)
   | (with_reducible exact spec_l2Of.mono _ _ _ _)
   | (with_reducible exact spec_l5Choose.mono _ _ _ _ _)
   | (with_reducible exact spec_l5Rests.mono _ _)
   | (with_reducible exact LeO.refl _)
   | (with_reducible exact LeO.none _)
   | (with_reducible refine LeO.ite ?_ ?_)
   | (with_reducible refine LeO.bind ?_ (fun _ => ?_))
   | exact ih0 _ _ _ _ _ _ _
   | exact ih1 _ _ _ _ _
   | exact spec_l2Of.mono _ _ _ _
   | exact spec_l5Choose.mono _ _ _ _ _
   | exact spec_l5Rests.mono _ _
   | exact LeO.none _
   | refine LeO.ite ?_ ?_
   | refine LeO.bind ?_ (fun _ => ?_)
def spec_l5Bound.T7 : Bool × List (List Nat × List Nat) := (true, [([], []), ([], []), ([], []), ([1, 2], [1, 2]), ([3], [3]), ([4], [4]), ([0, 5], [0, 5]), ([], []), ([], []), ([7, 8], [7, 8]), ([9], [9]), ([10], [10]), ([6, 11], [6, 11]), ([12, 6, 0, 1, 2, 3, 4, 5, 6, 7, 8, 9, 10, 11, 12], [0, 12])])
def spec_l5Bound.B7 : List Nat := [0, 0, 0, 6, 14, 30, 63, 0, 0, 384, 896, 1920, 4095, 8191]
theorem spec_l5Bound.tab7 : rtab .any (opsOf Try.f165 7) = spec_l5Bound.T7 := by kernel_rfl
theorem spec_l5Bound.bits7 : waitsOk spec_l5Bound.T7.2 spec_l5Bound.B7 = true := by kernel_rfl
def spec_l5Bound.T14 : Bool × List (List Nat × List Nat) := (true, [([], []), ([], []), ([], []), ([1, 2], [1, 2]), ([3], [3]), ([4], [4]), ([], []), ([], []), ([6, 7], [6, 7]), ([8], [8]), ([9], [9]), ([0, 5, 0, 1, 2, 3, 4, 5, 6, 7, 8, 9, 10], [0, 5]), ([11, 10, 0, 1, 2, 3, 4, 5, 6, 7, 8, 9, 10], [10, 11])])
def spec_l5Bound.B14 : List Nat := [0, 0, 0, 6, 14, 30, 0, 0, 192, 448, 960, 2047, 4095]
theorem spec_l5Bound.tab14 : rtab .any (opsOf Try.f165 14) = spec_l5Bound.T14 := by kernel_rfl
theorem spec_l5Bound.bits14 : waitsOk spec_l5Bound.T14.2 spec_l5Bound.B14 = true := by kernel_rfl
set_option maxHeartbeats 8000000 in
set_option maxRecDepth 100000 in
theorem spec_l5Bound.calls (k : Nat) (A0 : Option Addr) (c0 : Nat) (l0 : List (S38)) (A1 : Option Addr) (c1 : Nat) (l1 : List Int) (a2 : Int) (r : Int) (w : World) (hr0 : Kd.C k38 w A0 l0.length l0) (hc0 : l0.length ≤ c0) (hr1 : Kd.C (Kd.int .i64) w A1 l1.length l1) (hc1 : l1.length ≤ c1) (h : spec_l5Bound.f k l0 l1 a2 = some r) :
  Calls Try.prog 165 #[.slice A0 l0.length c0, .slice A1 l1.length c1, .int .i64 a2] w fun e w' => e = .returned (.int .i64 r) ∧ Below w.heap.size w w' := by
 have HR0 := Aside0.mk hr0
 have HC0 := Aside0.mk hc0
 clear hr0 hc0
 have HR1 := Aside0.mk hr1
 have HC1 := Aside0.mk hc1
 clear hr1 hc1
 have HB := Aside0.mk (Below.refl w.heap.size w)
 have H : ((spec_l5Rests.f k l0).bind fun t1334 => (if 0 ≤ (l0.length : Int) then (if ((l0.length : Int) : Int).toNat ≤ 35184372088832 then (spec_l5Bound.l0 k l0 l1 a2 t1334 0 (List.replicate ((l0.length : Int) : Int).toNat 0) 0) else (none)) else (none))) = some r := h
 clear h
 replace H := Option.bind_eq_some_iff.mp H
 obtain ⟨t1334, A40, H⟩ := H
 replace H : (if 0 ≤ (l0.length : Int) then (if ((l0.length : Int) : Int).toNat ≤ 35184372088832 then (spec_l5Bound.l0 k l0 l1 a2 t1334 0 (List.replicate ((l0.length : Int) : Int).toNat 0) 0) else (none)) else (none)) = some r := H
 have A4 := Aside0.mk A40
 clear A40
 by_cases c5 : 0 ≤ (l0.length : Int)
 ·rw [if_pos c5] at H
  have c5b0 := eq_true c5
  have c5b1 : decide (0 ≤ (l0.length : Int)) = true := decide_eq_true c5
  clear c5
  by_cases c6 : ((l0.length : Int) : Int).toNat ≤ 35184372088832
  ·rw [if_pos c6] at H
   have c6b0 := eq_true c6
   have c6b1 : decide (((l0.length : Int) : Int).toNat ≤ 35184372088832) = true := decide_eq_true c6
   clear c6
   obtain ⟨y1337, hy1337⟩ : ∃ y_ : List Int, y_ = (List.replicate ((l0.length : Int) : Int).toNat 0) := ⟨_, rfl⟩
   replace H : (spec_l5Bound.l0 k l0 l1 a2 t1334 0 y1337 0) = some r := by first | (rw [hy1337]; with_reducible exact H) | (have H2_ := (Option.bind_some _ _).symm.trans H; rw [hy1337]; with_reducible exact H2_) | (have H2_ := (Option.bind_some _ _).symm.trans H; with_reducible exact H2_) | with_reducible exact H | (rw [hy1337]; exact H) | exact H
   have Ny1337 := Aside0.mk hy1337
   clear hy1337
   have H' := Aside0.mk H
   clear H
   go_enter Try.func165, Try.ntmps165
   go_wp2_with (first | ((with_reducible refine gate_callee (f := 249) rfl ?_); refine goesL_ (some 15) rfl rfl Try.func249 (by kernel_rfl) rfl #[.slice A0 l0.length c0] rfl (by (try simp only [List.map_toArray, List.map_cons, List.map_nil]); first | done | rfl | (simp only [List.length_drop, List.length_take]; rfl)) ?_; (with_reducible refine (spec_l5Rests.calls k _ _ l0 t1334 _ ?side1 ?side2 A4.out).mono ?_); (case side1 => repeat (first | exact HR0.out | (with_reducible refine Kd.C_alloc ?_ _) | (with_reducible refine Kd.C_drewN ?_ _) | (with_reducible refine Kd.C_drew ?_))); (case side2 => exact HC0.out); rintro e w7 ⟨v1335, rfl, ho0, hb⟩; refine ⟨_, rfl, ?_⟩; have n0_ := Aside0.mk (Kd.R_lower ho0 (below_size (by repeat (first | (with_reducible first | exact HB.out | apply below_alloc | apply pw_below_drewN | apply below_drew1) | exact HB.out)))); have n1_ := Aside0.mk (below_step (by repeat (first | (with_reducible first | exact HB.out | apply below_alloc | apply pw_below_drewN | apply below_drew1) | exact HB.out)) hb); clear HB; have HO1336 := n0_; have HB := n1_; clear n0_ n1_; (try clear hb); (try clear hb2); (try clear hk); (try clear hi); (try clear ho0)) | ((with_reducible refine gate_dst (N := 18) rfl ?_); refine Kd.R_make (Kd.int .i64) _ 3 rfl (N := 18) rfl 25 _ _ rfl (l0.length : Int) rfl rfl Try.underlying25 (.int .i64 0) 8 info3 rfl (by decide) (by omega) 0 (ok := fun _ => True) (okp := fun _ => True) rfl (fun _ hk => hk) trivial (of_decide_eq_true (by first | (with_reducible assumption) | assumption)) (Nat.le_trans (Nat.mul_le_mul_right _ (of_decide_eq_true (by first | (with_reducible assumption) | assumption) : (l0.length : Int).toNat ≤ 35184372088832)) (by omega)) (Below.refl _ _) (Nat.le_refl _) ?_; intro v1338 w8 ho9 hb hg_ hnew_; clear hg_ hnew_; (first | rw [← Ny1337.out] at ho9 | (simp only [Int.reduceToNat] at ho9; rw [← Ny1337.out] at ho9)); have n0_ := Aside0.mk (Kd.R_elder' (by (with_reducible repeat (first | apply Kd.R_alloc | apply Kd.R_drewN | apply Kd.R_drew)); exact HO1336.out) (Kd.R_base ho9) hb); have n1_ := Aside0.mk (Kd.R_lower (Kd.R_new' ho9 (Kd.R_lt (by (with_reducible repeat (first | apply Kd.R_alloc | apply Kd.R_drewN | apply Kd.R_drew)); exact HO1336.out))) (below_size (by repeat (first | (with_reducible first | exact HB.out | apply below_alloc | apply pw_below_drewN | apply below_drew1) | exact HB.out)))); have n2_ := Aside0.mk (below_step (by repeat (first | (with_reducible first | exact HB.out | apply below_alloc | apply pw_below_drewN | apply below_drew1) | exact HB.out)) hb); clear HO1336; clear HB; have HO1336 := n0_; have HO1339 := n1_; have HB := n2_; clear n0_ n1_ n2_; clear hb ho9))
   go_loopg [8, 10] k (fun kq v8 v10 w' => ∃ (x7_1 : List Int) (x8_1 : Int) (x9_1 : List Int) (x10_1 : Int), v8 = .int .i64 x8_1 ∧ v10 = .int .i64 x10_1 ∧ Aside0 (spec_l5Bound.l0 kq l0 l1 a2 x7_1 x8_1 x9_1 x10_1 = some r) ∧ Aside0 (kq ≤ k) ∧ Aside0 (Kd.R (Kd.int .i64) 3 w' w.heap.size (fun k_ => some k_ ≠ (v1338 : Value).ownBlock) v1335 x7_1) ∧ Aside0 (Kd.R (Kd.int .i64) 3 w' w.heap.size (fun k_ => some k_ ≠ (v1335 : Value).ownBlock) v1338 x9_1) ∧ Aside0 (Below w.heap.size w w'))
   case atStart => exact ⟨(t1334), (0), (y1337), (0), (by first | rfl | (simp; done) | (simp [*]; done)), (by first | rfl | (simp; done) | (simp [*]; done)), H', ⟨Nat.le_refl _⟩, ⟨by (with_reducible repeat (first | apply Kd.R_alloc | apply Kd.R_drewN | apply Kd.R_drew)); exact Kd.R_mono HO1336.out (fun _ hk => hk.2)⟩, ⟨by (with_reducible repeat (first | apply Kd.R_alloc | apply Kd.R_drewN | apply Kd.R_drew)); exact Kd.R_mono HO1339.out (fun _ hk => hk.2)⟩, ⟨by repeat (first | (with_reducible first | exact HB.out | apply below_alloc | apply pw_below_drewN | apply below_drew1) | exact HB.out)⟩⟩
   case round =>
    clear H'
    try clear c1
    try clear c2
    try clear p2
    try clear c5
    try clear c5b0
    try clear c5b1
    try clear c6
    try clear c6b0
    try clear c6b1
    obtain ⟨x7_1, x8_1, x9_1, x10_1, rfl, rfl, HA, HK1, HO_7, HO_9, HB⟩ := hrel
    cases gk with
    | zero => exact absurd HA.out (by simp [spec_l5Bound.l0])
    | succ k1 =>
     have H := HA.out
     clear HA
     simp only [spec_l5Bound.l0] at H
     by_cases c10 : x10_1 < (l1.length : Int)
     ·rw [if_pos c10] at H
      have c10b0 : decide (x10_1 < (l1.length : Int)) = true := decide_eq_true c10
      clear c10
      by_cases c11 : 0 ≤ x10_1
      ·rw [if_pos c11] at H
       have c11b0 : decide (0 ≤ x10_1) = true := decide_eq_true c11
       clear c11
       by_cases c12 : 0 ≤ (rd l1 x10_1)
       ·rw [if_pos c12] at H
        have c12b0 : decide (0 ≤ (rd l1 x10_1)) = true := decide_eq_true c12
        clear c12
        by_cases c13 : (rd l1 x10_1) < (l0.length : Int)
        ·rw [if_pos c13] at H
         have c13b0 : decide ((rd l1 x10_1) < (l0.length : Int)) = true := decide_eq_true c13
         clear c13
         replace H := Option.bind_eq_some_iff.mp H
         obtain ⟨t1342, A140, H⟩ := H
         replace H : (if (rd l1 x10_1) < (x9_1.length : Int) then (if (rd l1 x10_1) < (x7_1.length : Int) then (spec_l5Bound.l0 k1 l0 l1 a2 (x7_1.set ((rd l1 x10_1) : Int).toNat 0) (wrap64 (t1342 + ((rd_T38 l0 (rd l1 x10_1)).f0))) (x9_1.set ((rd l1 x10_1) : Int).toNat (wrap64 (t1342 + ((rd_T38 l0 (rd l1 x10_1)).f0)))) (wrap64 (x10_1 + 1))) else (none)) else (none)) = some r := H
         have A14 := Aside0.mk A140
         clear A140
         by_cases c15 : (rd l1 x10_1) < (x9_1.length : Int)
         ·rw [if_pos c15] at H
          have c15b0 : decide ((rd l1 x10_1) < (x9_1.length : Int)) = true := decide_eq_true c15
          clear c15
          obtain ⟨y1344, hy1344⟩ : ∃ y_ : List Int, y_ = (x9_1.set ((rd l1 x10_1) : Int).toNat (wrap64 (t1342 + ((rd_T38 l0 (rd l1 x10_1)).f0)))) := ⟨_, rfl⟩
          replace H : (if (rd l1 x10_1) < (x7_1.length : Int) then (spec_l5Bound.l0 k1 l0 l1 a2 (x7_1.set ((rd l1 x10_1) : Int).toNat 0) (wrap64 (t1342 + ((rd_T38 l0 (rd l1 x10_1)).f0))) y1344 (wrap64 (x10_1 + 1))) else (none)) = some r := by first | (rw [hy1344]; with_reducible exact H) | (have H2_ := (Option.bind_some _ _).symm.trans H; rw [hy1344]; with_reducible exact H2_) | (have H2_ := (Option.bind_some _ _).symm.trans H; with_reducible exact H2_) | with_reducible exact H | (rw [hy1344]; exact H) | exact H
          have Ny1344 := Aside0.mk hy1344
          clear hy1344
          by_cases c17 : (rd l1 x10_1) < (x7_1.length : Int)
          ·rw [if_pos c17] at H
           have c17b0 : decide ((rd l1 x10_1) < (x7_1.length : Int)) = true := decide_eq_true c17
           clear c17
           obtain ⟨y1345, hy1345⟩ : ∃ y_ : List Int, y_ = (x7_1.set ((rd l1 x10_1) : Int).toNat 0) := ⟨_, rfl⟩
           replace H : (spec_l5Bound.l0 k1 l0 l1 a2 y1345 (wrap64 (t1342 + ((rd_T38 l0 (rd l1 x10_1)).f0))) y1344 (wrap64 (x10_1 + 1))) = some r := by first | (rw [hy1345]; with_reducible exact H) | (have H2_ := (Option.bind_some _ _).symm.trans H; rw [hy1345]; with_reducible exact H2_) | (have H2_ := (Option.bind_some _ _).symm.trans H; with_reducible exact H2_) | with_reducible exact H | (rw [hy1345]; exact H) | exact H
           have Ny1345 := Aside0.mk hy1345
           clear hy1345
           have H' := Aside0.mk H
           clear H
           have p1340 : 0 ≤ (x10_1 : Int) := of_decide_eq_true (by first | (with_reducible assumption) | assumption)
           have q1340 : x10_1 < (l1.length : Int) := of_decide_eq_true (by first | (with_reducible assumption) | assumption)
           obtain ⟨ad1340, e1340, hx1340_0⟩ := Kd.at_int HR1.out x10_1 p1340 q1340
           cases e1340
           replace hx1340_0 := (HB.out.cell (World.block_lt_of_cell? w _ hx1340_0)).trans hx1340_0
           replace p1340 := eq_true p1340
           replace q1340 := eq_true q1340
           try go_wp2
           have n0_ := Aside0.mk (Kd.R_drew HO_7.out)
           have n1_ := Aside0.mk (Kd.R_drew HO_9.out)
           have n2_ := Aside0.mk (below_drew1 HB.out)
           clear HO_7
           clear HO_9
           clear HB
           have HO_7 := n0_
           have HO_9 := n1_
           have HB := n2_
           clear n0_ n1_ n2_
           have p1341 : 0 ≤ ((rd l1 x10_1) : Int) := of_decide_eq_true (by first | (with_reducible assumption) | assumption)
           have q1341 : (rd l1 x10_1) < (l0.length : Int) := of_decide_eq_true (by first | (with_reducible assumption) | assumption)
           obtain ⟨ad1341, e1341, hx1341_0, hx1341_1, hx1341_2, hx1341_3⟩ := at_T38 HR0.out (rd l1 x10_1) p1341 q1341
           have hw1341_3 := hx1341_3
           have hw1341_2 := hx1341_2
           have hw1341_1 := hx1341_1
           have hw1341_0 := hx1341_0
           cases e1341
           replace hx1341_0 := (HB.out.cell (World.block_lt_of_cell? w _ hx1341_0)).trans hx1341_0
           replace hx1341_1 := (HB.out.cell (World.block_lt_of_cell? w _ hx1341_1)).trans hx1341_1
           replace hx1341_2 := (HB.out.cell (World.block_lt_of_cell? w _ hx1341_2)).trans hx1341_2
           replace hx1341_3 := (HB.out.cell (World.block_lt_of_cell? w _ hx1341_3)).trans hx1341_3
           replace p1341 := eq_true p1341
           replace q1341 := eq_true q1341
           have p1343 : 0 ≤ ((rd l1 x10_1) : Int) := of_decide_eq_true (by first | (with_reducible assumption) | assumption)
           have q1343 : (rd l1 x10_1) < (l0.length : Int) := of_decide_eq_true (by first | (with_reducible assumption) | assumption)
           obtain ⟨ad1343, e1343, hx1343_0, hx1343_1, hx1343_2, hx1343_3⟩ := at_T38 HR0.out (rd l1 x10_1) p1343 q1343
           have hw1343_3 := hx1343_3
           have hw1343_2 := hx1343_2
           have hw1343_1 := hx1343_1
           have hw1343_0 := hx1343_0
           obtain rfl : ad1341 = ad1343 := (by injection e1343)
           replace hx1343_0 := (HB.out.cell (World.block_lt_of_cell? w _ hx1343_0)).trans hx1343_0
           replace hx1343_1 := (HB.out.cell (World.block_lt_of_cell? w _ hx1343_1)).trans hx1343_1
           replace hx1343_2 := (HB.out.cell (World.block_lt_of_cell? w _ hx1343_2)).trans hx1343_2
           replace hx1343_3 := (HB.out.cell (World.block_lt_of_cell? w _ hx1343_3)).trans hx1343_3
           replace p1343 := eq_true p1343
           replace q1343 := eq_true q1343
           refine start_ (n := 14) (S := fun w' => w'.cell? (ad1341.add (((rd l1 x10_1)).toNat * 4)) = some (.int .i64 ((rd_T38 l0 (rd l1 x10_1)).f0)) ∧ w'.cell? ⟨(ad1341.add (((rd l1 x10_1)).toNat * 4)).block, (ad1341.add (((rd l1 x10_1)).toNat * 4)).off + 1, none⟩ = some (.int .i64 ((rd_T38 l0 (rd l1 x10_1)).f1)) ∧ w'.cell? ⟨(ad1341.add (((rd l1 x10_1)).toNat * 4)).block, (ad1341.add (((rd l1 x10_1)).toNat * 4)).off + 2, none⟩ = some (.int .i64 ((rd_T38 l0 (rd l1 x10_1)).f2)) ∧ w'.cell? ⟨(ad1341.add (((rd l1 x10_1)).toNat * 4)).block, (ad1341.add (((rd l1 x10_1)).toNat * 4)).off + 3, none⟩ = some (.int .i64 ((rd_T38 l0 (rd l1 x10_1)).f3)) ∧ w'.cell? (ad1341.add (((rd l1 x10_1)).toNat * 4)) = some (.int .i64 ((rd_T38 l0 (rd l1 x10_1)).f0)) ∧ w'.cell? ⟨(ad1341.add (((rd l1 x10_1)).toNat * 4)).block, (ad1341.add (((rd l1 x10_1)).toNat * 4)).off + 1, none⟩ = some (.int .i64 ((rd_T38 l0 (rd l1 x10_1)).f1)) ∧ w'.cell? ⟨(ad1341.add (((rd l1 x10_1)).toNat * 4)).block, (ad1341.add (((rd l1 x10_1)).toNat * 4)).off + 2, none⟩ = some (.int .i64 ((rd_T38 l0 (rd l1 x10_1)).f2)) ∧ w'.cell? ⟨(ad1341.add (((rd l1 x10_1)).toNat * 4)).block, (ad1341.add (((rd l1 x10_1)).toNat * 4)).off + 3, none⟩ = some (.int .i64 ((rd_T38 l0 (rd l1 x10_1)).f3))) (ds := []) q165_0 (by kernel_rfl) rfl rfl ⟨(bcl_ HB.out hw1341_0 :), (bcl_ HB.out hw1341_1 :), (bcl_ HB.out hw1341_2 :), (bcl_ HB.out hw1341_3 :), (bcl_ HB.out hw1343_0 :), (bcl_ HB.out hw1343_1 :), (bcl_ HB.out hw1343_2 :), (bcl_ HB.out hw1343_3 :)⟩ (fun hHeld => ?_); refine with_tabW spec_l5Bound.tab7 spec_l5Bound.bits7 (fun HT_ HW_ => ?_)
           generalize wr.drew = w19 at HO_7 HO_9 HB hx1341_0 hx1341_1 hx1341_2 hx1341_3 hx1343_0 hx1343_1 hx1343_2 hx1343_3 hHeld ⊢
           refine pure_ (i := 0) (N := some 29) (v := ?_) (a' := ?_) q165_1 rfl rfl (any_of HT_.out (by kernel_rfl)) (fun _ _ _ h => h) (Or.inl ⟨by rfl, ?_⟩) ?_ ?_
           rotate_left
           ·intro w'
            go_simp
            with_reducible rfl
           rotate_left
           ·simp only [aq_]
            rfl
           refine pure_ (i := 1) (N := some 30) (v := ?_) (a' := ?_) q165_2 rfl rfl (any_of HT_.out (by kernel_rfl)) (fun _ _ _ h => h) (Or.inl ⟨by rfl, ?_⟩) ?_ ?_
           rotate_left
           ·intro w'
            go_simp
            with_reducible rfl
           rotate_left
           ·simp only [aq_]
            rfl
           refine pure_ (i := 2) (N := some 31) (v := ?_) (a' := ?_) q165_3 rfl rfl (any_of HT_.out (by kernel_rfl)) (fun _ _ _ h => h) (Or.inl ⟨by rfl, ?_⟩) ?_ ?_
           rotate_left
           ·intro w'
            go_simp
            with_reducible rfl
           rotate_left
           ·simp only [aq_]
            rfl
           refine pure_ (i := 3) (N := some 32) (v := ?_) (a' := ?_) q165_4 rfl rfl (any_of HT_.out (by kernel_rfl)) (fun _ _ _ h => h) (Or.inl ⟨by rfl, ?_⟩) ?_ ?_
           rotate_left
           ·intro w'
            go_simp
            with_reducible rfl
           rotate_left
           ·simp only [aq_]
            rfl
           refine pure_ (i := 4) (N := some 33) (v := ?_) (a' := ?_) q165_5 rfl rfl (any_of HT_.out (by kernel_rfl)) (fun _ _ _ h => h) (Or.inl ⟨by rfl, ?_⟩) ?_ ?_
           rotate_left
           ·intro w'
            go_simp
            with_reducible rfl
           rotate_left
           ·simp only [aq_]
            rfl
           refine pure_ (i := 7) (N := some 36) (v := ?_) (a' := ?_) q165_6 rfl rfl (any_of HT_.out (by kernel_rfl)) (fun _ _ _ h => h) (Or.inl ⟨by rfl, ?_⟩) ?_ ?_
           rotate_left
           ·intro w'
            go_simp
            with_reducible rfl
           rotate_left
           ·simp only [aq_]
            rfl
           refine pure_ (i := 8) (N := some 37) (v := ?_) (a' := ?_) q165_7 rfl rfl (any_of HT_.out (by kernel_rfl)) (fun _ _ _ h => h) (Or.inl ⟨by rfl, ?_⟩) ?_ ?_
           rotate_left
           ·intro w'
            go_simp
            with_reducible rfl
           rotate_left
           ·simp only [aq_]
            rfl
           refine pure_ (i := 9) (N := some 38) (v := ?_) (a' := ?_) q165_8 rfl rfl (any_of HT_.out (by kernel_rfl)) (fun _ _ _ h => h) (Or.inl ⟨by rfl, ?_⟩) ?_ ?_
           rotate_left
           ·intro w'
            go_simp
            with_reducible rfl
           rotate_left
           ·simp only [aq_]
            rfl
           refine pure_ (i := 10) (N := some 39) (v := ?_) (a' := ?_) q165_9 rfl rfl (any_of HT_.out (by kernel_rfl)) (fun _ _ _ h => h) (Or.inl ⟨by rfl, ?_⟩) ?_ ?_
           rotate_left
           ·intro w'
            go_simp
            with_reducible rfl
           rotate_left
           ·simp only [aq_]
            rfl
           refine take_ (i := 5) (N := some 34) (v := ?_) (a' := ?_) q165_10 rfl rfl (take_ofW HT_.out HW_.out (by kernel_rfl)) (fun _ _ _ h => h) (Or.inl ⟨by rfl, ?_⟩) hHeld ?_ ?_
           rotate_left
           ·rintro w' ⟨s0, s1, s2, s3, s4, s5, s6, s7⟩
            go_simp
            with_reducible rfl
           rotate_left
           ·simp only [aq_]
            rfl
           refine take_ (i := 11) (N := some 40) (v := ?_) (a' := ?_) q165_11 rfl rfl (take_ofW HT_.out HW_.out (by kernel_rfl)) (fun _ _ _ h => h) (Or.inl ⟨by rfl, ?_⟩) hHeld ?_ ?_
           rotate_left
           ·rintro w' ⟨s0, s1, s2, s3, s4, s5, s6, s7⟩
            go_simp
            with_reducible rfl
           rotate_left
           ·simp only [aq_]
            rfl
           refine one_ (i := 6) (N := some 35) q165_12 rfl rfl (one_of HT_.out (by kernel_rfl)) (by decide) (fun K hK => ?_)
           refine goes_ Try.func213 (by kernel_rfl) rfl #[.int .i64 x8_1, .int .i64 ((rd_T38 l0 (rd l1 x10_1)).f2)] (by rfl) rfl rfl (by (try simp only [List.map_toArray, List.map_cons, List.map_nil]); first | done | rfl | (simp only [List.length_drop, List.length_take]; rfl)) ?_
           with_reducible refine (spec_l1Most.calls x8_1 ((rd_T38 l0 (rd l1 x10_1)).f2) t1342 _ A14.out).mono ?_
           rintro e w' ⟨rfl, ⟨nd, rfl⟩⟩
           refine ⟨_, rfl, ?_⟩
           refine hK.out _ _ ⟨(bcl_ HB.out hw1341_0 :), (bcl_ HB.out hw1341_1 :), (bcl_ HB.out hw1341_2 :), (bcl_ HB.out hw1341_3 :), (bcl_ HB.out hw1343_0 :), (bcl_ HB.out hw1343_1 :), (bcl_ HB.out hw1343_2 :), (bcl_ HB.out hw1343_3 :)⟩ (fun hHeld => ?_)
           clear hK K
           refine norm_ (a' := ?_) ?_ ?_
           rotate_left
           ·show Act.put _ (some 35) _ = _
            simp only [aq_]
            rfl
           refine pure_ (i := 12) (N := some 41) (v := ?_) (a' := ?_) q165_13 rfl rfl (any_of HT_.out (by kernel_rfl)) (fun _ _ _ h => h) (Or.inl ⟨by rfl, ?_⟩) ?_ ?_
           rotate_left
           ·intro w'
            go_simp
            with_reducible rfl
           rotate_left
           ·simp only [aq_]
            rfl
           refine pure_ (i := 13) (N := some 8) (v := ?_) (a' := ?_) q165_14 rfl rfl (any_of HT_.out (by kernel_rfl)) (fun _ _ _ h => h) (Or.inl ⟨by rfl, ?_⟩) ?_ ?_
           rotate_left
           ·intro w'
            go_simp
            with_reducible rfl
           rotate_left
           ·simp only [aq_]
            rfl
           refine done_ (done_of HT_.out (by kernel_rfl)) ?_
           repeat (rw [drewN_self w19]; generalize hq_ : World.drewN w19 _ = w19; (first | replace HO_7 := Aside0.mk (Kd.R_at hq_ HO_7.out) | replace HO_7 := Aside0.mk (Kd.S_at hq_ HO_7.out) | replace HO_7 := Aside0.mk (Kd.Q_at hq_ HO_7.out) | skip); (first | replace HO_9 := Aside0.mk (Kd.R_at hq_ HO_9.out) | replace HO_9 := Aside0.mk (Kd.S_at hq_ HO_9.out) | replace HO_9 := Aside0.mk (Kd.Q_at hq_ HO_9.out) | skip); (try replace HB := Aside0.mk (below_at hq_ HB.out)); (try replace hx1341_0 := cell_at hq_ hx1341_0); (try replace hx1341_1 := cell_at hq_ hx1341_1); (try replace hx1341_2 := cell_at hq_ hx1341_2); (try replace hx1341_3 := cell_at hq_ hx1341_3); (try replace hx1343_0 := cell_at hq_ hx1343_0); (try replace hx1343_1 := cell_at hq_ hx1343_1); (try replace hx1343_2 := cell_at hq_ hx1343_2); (try replace hx1343_3 := cell_at hq_ hx1343_3); clear hq_)
           have p16 : 0 ≤ ((rd l1 x10_1) : Int) := of_decide_eq_true (by first | (with_reducible assumption) | assumption)
           have q16 : ((rd l1 x10_1) : Int) < ((x9_1.length : Int) : Int) := of_decide_eq_true (by first | (with_reducible assumption) | assumption)
           obtain ⟨go16, co16, eo16, gb16, gl16, cl16, HG16⟩ := Kd.R_form HO_9.out (by omega)
           (first | cases eo16 | (injection eo16 with ea_ en_ ec_; (first | subst ea_ | (injection ea_ with ea_; subst ea_)); subst ec_; clear en_))
           have GB16 := Aside0.mk gb16
           have GG16 := Aside0.mk HG16
           clear gb16 gl16 HG16
           obtain ⟨hx16_0, hf16_0⟩ := Kd.R_celln 0 HO_9.out ((rd l1 x10_1) : Int) p16 q16
           replace p16 := eq_true p16
           replace q16 := eq_true q16
           obtain ⟨hy20_, hz20_⟩ := Kd.R_celln 0 HO_9.out ((rd l1 x10_1) : Int) (of_decide_eq_true (by first | (with_reducible assumption) | assumption)) (of_decide_eq_true (by first | (with_reducible assumption) | assumption))
           have HP20 := Kd.R_putg HO_9.out ((rd l1 x10_1) : Int) (wrap64 (t1342 + ((rd_T38 l0 (rd l1 x10_1)).f0)))
           try go_wp2_with (first | ((with_reducible refine gate_store (t := 3) (p := 45) rfl ?_); refine store_event (t := 3) (p := 45) (v := ?vo_w21) (w1 := (w19.setCell ⟨go16, ((rd l1 x10_1) : Int).toNat, none⟩ (.int .i64 (wrap64 (t1342 + ((rd_T38 l0 (rd l1 x10_1)).f0)))))) ?hg ?ho ?hn ?hr ?_; (case ho => rfl); (case hg => rfl); (case hn => rfl); (case hr => first | (go_simp; done) | (go_simp; rfl)); intro w21 hw; have hg : w19.grownBy w21 (some go16) := (by rw [hw]; exact HP20.2); have hp_ : Kd.R (Kd.int .i64) 3 w21 w.heap.size (fun k_ => some k_ ≠ (v1335 : Value).ownBlock) (.slice (some ⟨go16, 0, none⟩) x9_1.length co16) y1344 := (by rw [hw, Ny1344.out]; exact HP20.1); clear HP20; have n0_ := Aside0.mk (Kd.R_after (v := (.slice (some ⟨go16, 0, none⟩) x9_1.length co16)) (v1 := (.slice (some ⟨go16, 0, none⟩) x9_1.length co16)) (ok := (fun _ => True)) (by (with_reducible repeat (first | apply Kd.R_alloc | apply Kd.R_drewN | apply Kd.R_drew)); exact Kd.R_mono HO_7.out (fun _ hk => ⟨trivial, hk⟩)) hg (.inl rfl)); have n1_ := Aside0.mk (hp_); have n2_ := Aside0.mk ((by rw [hw]; exact below_set (HB.out) GB16.out : Below w.heap.size w w21)); clear HO_7; clear HO_9; clear HB; have HO_7 := n0_; have HO_9 := n1_; have HB := n2_; clear n0_ n1_ n2_; clear hg hw hp_; have p18 : 0 ≤ ((rd l1 x10_1) : Int) := of_decide_eq_true (by first | (with_reducible assumption) | assumption); have q18 : ((rd l1 x10_1) : Int) < ((x7_1.length : Int) : Int) := of_decide_eq_true (by first | (with_reducible assumption) | assumption); obtain ⟨go18, co18, eo18, gb18, gl18, cl18, HG18⟩ := Kd.R_form HO_7.out (by omega); (first | cases eo18 | (injection eo18 with ea_ en_ ec_; (first | subst ea_ | (injection ea_ with ea_; subst ea_)); subst ec_; clear en_)); have GB18 := Aside0.mk gb18; have GG18 := Aside0.mk HG18; clear gb18 gl18 HG18; obtain ⟨hx18_0, hf18_0⟩ := Kd.R_celln 0 HO_7.out ((rd l1 x10_1) : Int) p18 q18; replace p18 := eq_true p18; replace q18 := eq_true q18; have n_ := Aside0.mk (Kd.R_mono (ok' := (fun k_ => some k_ ≠ (.slice (some ⟨go16, 0, none⟩) x9_1.length co16 : Value).ownBlock)) HO_7.out (fun k_ hk => hk.2)); clear HO_7; have HO_7 := n_; clear n_; obtain ⟨hy22_, hz22_⟩ := Kd.R_celln 0 HO_7.out ((rd l1 x10_1) : Int) (of_decide_eq_true (by first | (with_reducible assumption) | assumption)) (of_decide_eq_true (by first | (with_reducible assumption) | assumption)); have HP22 := Kd.R_putg HO_7.out ((rd l1 x10_1) : Int) 0) | ((with_reducible refine gate_store (t := 3) (p := 48) rfl ?_); refine store_event (t := 3) (p := 48) (v := ?vo_w23) (w1 := (w21.setCell ⟨go18, ((rd l1 x10_1) : Int).toNat, none⟩ (.int .i64 0))) ?hg ?ho ?hn ?hr ?_; (case ho => rfl); (case hg => rfl); (case hn => rfl); (case hr => first | (go_simp; done) | (go_simp; rfl)); intro w23 hw; have hg : w21.grownBy w23 (some go18) := (by rw [hw]; exact HP22.2); have hp_ : Kd.R (Kd.int .i64) 3 w23 w.heap.size (fun k_ => some k_ ≠ (.slice (some ⟨go16, 0, none⟩) x9_1.length co16 : Value).ownBlock) (.slice (some ⟨go18, 0, none⟩) x7_1.length co18) y1345 := (by rw [hw, Ny1345.out]; exact HP22.1); clear HP22; have n0_ := Aside0.mk (hp_); have n1_ := Aside0.mk (Kd.R_after (v := (.slice (some ⟨go18, 0, none⟩) x7_1.length co18)) (v1 := (.slice (some ⟨go18, 0, none⟩) x7_1.length co18)) (ok := (fun _ => True)) (by (with_reducible repeat (first | apply Kd.R_alloc | apply Kd.R_drewN | apply Kd.R_drew)); exact Kd.R_mono HO_9.out (fun _ hk => ⟨trivial, hk⟩)) hg (.inl rfl)); have n2_ := Aside0.mk ((by rw [hw]; exact below_set (HB.out) GB18.out : Below w.heap.size w w23)); clear HO_7; clear HO_9; clear HB; have HO_7 := n0_; have HO_9 := n1_; have HB := n2_; clear n0_ n1_ n2_; clear hg hw hp_))
           go_roundg k1
           case measure => have := HK1.out; omega
           case rel => exact ⟨(y1345), (wrap64 (t1342 + ((rd_T38 l0 (rd l1 x10_1)).f0))), (y1344), (wrap64 (x10_1 + 1)), (by first | rfl | (simp; done) | (simp [*]; done)), (by first | rfl | (simp; done) | (simp [*]; done)), H', ⟨by have := HK1.out; omega⟩, ⟨by (with_reducible repeat (first | apply Kd.R_alloc | apply Kd.R_drewN | apply Kd.R_drew)); exact HO_7.out⟩, ⟨by (with_reducible repeat (first | apply Kd.R_alloc | apply Kd.R_drewN | apply Kd.R_drew)); exact Kd.R_mono HO_9.out (fun _ hk => hk.2)⟩, ⟨by repeat (first | (with_reducible first | exact HB.out | apply below_alloc | apply pw_below_drewN | apply below_drew1) | exact HB.out)⟩⟩
          ·rw [if_neg c17] at H
           exact absurd H (by simp)
         ·rw [if_neg c15] at H
          exact absurd H (by simp)
        ·rw [if_neg c13] at H
         exact absurd H (by simp)
       ·rw [if_neg c12] at H
        exact absurd H (by simp)
      ·rw [if_neg c11] at H
       exact absurd H (by simp)
     ·rw [if_neg c10] at H
      have c10b0 : decide (x10_1 < (l1.length : Int)) = false := decide_eq_false c10
      clear c10
      replace H := Option.bind_eq_some_iff.mp H
      obtain ⟨t1346, A240, H⟩ := H
      replace H : (spec_l5Bound.l1 k1 l0 a2 x9_1 t1346 0) = some r := H
      have A24 := Aside0.mk A240
      clear A240
      have H' := Aside0.mk H
      clear H
      obtain ⟨Ao25, co25, eo25⟩ := Kd.R_slice HO_7.out
      subst eo25
      go_wp2_with (first | ((with_reducible refine gate_callee (f := 250) rfl ?_); refine goesL_ (some 53) rfl rfl Try.func250 (by kernel_rfl) rfl #[.slice A0 l0.length c0, .slice Ao25 x7_1.length co25, .int .i64 x8_1, .int .i64 a2] rfl (by (try simp only [List.map_toArray, List.map_cons, List.map_nil]); first | done | rfl | (simp only [List.length_drop, List.length_take]; rfl)) ?_; (with_reducible refine (spec_l5Choose.calls k1 _ _ l0 _ _ x7_1 x8_1 a2 t1346 _ ?side1 ?side2 ?side3 ?side4 A24.out).mono ?_); (case side1 => repeat (first | exact (Kd.C_below HR0.out HB.out) | (with_reducible refine Kd.C_alloc ?_ _) | (with_reducible refine Kd.C_drewN ?_ _) | (with_reducible refine Kd.C_drew ?_))); (case side2 => exact HC0.out); (case side3 => repeat (first | exact (Kd.R_reads' HO_7.out).2.2 | (with_reducible refine Kd.C_alloc ?_ _) | (with_reducible refine Kd.C_drewN ?_ _) | (with_reducible refine Kd.C_drew ?_))); (case side4 => exact (Kd.R_reads' HO_7.out).2.1); rintro e w26 ⟨v1347, rfl, ho0, hb⟩; refine ⟨_, rfl, ?_⟩; have n0_ := Aside0.mk (Kd.R_below (by (with_reducible repeat (first | apply Kd.R_alloc | apply Kd.R_drewN | apply Kd.R_drew)); exact HO_7.out) hb); have n1_ := Aside0.mk (Kd.R_below (by (with_reducible repeat (first | apply Kd.R_alloc | apply Kd.R_drewN | apply Kd.R_drew)); exact HO_9.out) hb); have n2_ := Aside0.mk (Kd.R_lower ho0 (below_size (by repeat (first | (with_reducible first | exact HB.out | apply below_alloc | apply pw_below_drewN | apply below_drew1) | exact HB.out)))); have n3_ := Aside0.mk (below_step (by repeat (first | (with_reducible first | exact HB.out | apply below_alloc | apply pw_below_drewN | apply below_drew1) | exact HB.out)) hb); clear HO_7; clear HO_9; clear HB; have HO_7 := n0_; have HO_9 := n1_; have HO1348 := n2_; have HB := n3_; clear n0_ n1_ n2_ n3_; (try clear hb); (try clear hb2); (try clear hk); (try clear hi); (try clear ho0)))
      go_loopg [13] k1 (fun kq v13 w' => ∃ (x9_2 : List Int) (x13_2 : Int), v13 = .int .i64 x13_2 ∧ Aside0 (spec_l5Bound.l1 kq l0 a2 x9_2 t1346 x13_2 = some r) ∧ Aside0 (kq ≤ k1) ∧ Aside0 (Kd.R (Kd.int .i64) 3 w' w.heap.size (fun _ => True) v1338 x9_2) ∧ Aside0 (Kd.R k237 237 w' w.heap.size (fun _ => True) v1347 t1346) ∧ Aside0 (Below w.heap.size w w'))
      case atStart => exact ⟨(x9_1), (0), (by first | rfl | (simp; done) | (simp [*]; done)), H', ⟨Nat.le_refl _⟩, ⟨by (with_reducible repeat (first | apply Kd.R_alloc | apply Kd.R_drewN | apply Kd.R_drew)); exact Kd.R_mono HO_9.out (fun _ hk => trivial)⟩, ⟨by (with_reducible repeat (first | apply Kd.R_alloc | apply Kd.R_drewN | apply Kd.R_drew)); exact HO1348.out⟩, ⟨by repeat (first | (with_reducible first | exact HB.out | apply below_alloc | apply pw_below_drewN | apply below_drew1) | exact HB.out)⟩⟩
      case round =>
       clear H'
       try clear c1
       try clear p1
       try clear q1
       try clear hx1
       try clear c2
       try clear p2
       try clear c5
       try clear c5b0
       try clear c5b1
       try clear c6
       try clear c6b0
       try clear c6b1
       try clear p6
       try clear c10
       try clear c10b0
       try clear c11
       try clear c11b0
       try clear c12
       try clear c12b0
       try clear c13
       try clear c13b0
       try clear p13
       try clear q13
       try clear hx13
       try clear c15
       try clear c15b0
       try clear c16
       try clear p16
       try clear q16
       try clear hx16
       try clear hf16
       try clear c17
       try clear c17b0
       try clear p18
       try clear q18
       try clear hx18
       try clear hf18
       try clear c21
       try clear c24
       try clear c25
       try clear hx1340_0
       try clear hx1341_0
       try clear hx1341_1
       try clear hx1341_2
       try clear hx1341_3
       try clear hx1343_0
       try clear hx1343_1
       try clear hx1343_2
       try clear hx1343_3
       try clear hx16_0
       try clear hx18_0
       try clear p1340
       try clear p1341
       try clear p1343
       try clear p16
       try clear p18
       try clear p2
       try clear q1340
       try clear q1341
       try clear q1343
       try clear q16
       try clear q18
       obtain ⟨x9_2, x13_2, rfl, HA, HK2, HO_9, HO_12, HB⟩ := hrel
       cases gk with
       | zero => exact absurd HA.out (by simp [spec_l5Bound.l1])
       | succ k2 =>
        have H := HA.out
        clear HA
        simp only [spec_l5Bound.l1] at H
        by_cases c27 : x13_2 < (t1346.length : Int)
        ·rw [if_pos c27] at H
         have c27b0 : decide (x13_2 < (t1346.length : Int)) = true := decide_eq_true c27
         clear c27
         by_cases c28 : 0 ≤ x13_2
         ·rw [if_pos c28] at H
          have c28b0 : decide (0 ≤ x13_2) = true := decide_eq_true c28
          clear c28
          by_cases c29 : 0 ≤ ((rd_T237 t1346 x13_2).f0)
          ·rw [if_pos c29] at H
           have c29b0 : decide (0 ≤ ((rd_T237 t1346 x13_2).f0)) = true := decide_eq_true c29
           clear c29
           by_cases c30 : ((rd_T237 t1346 x13_2).f0) < (x9_2.length : Int)
           ·rw [if_pos c30] at H
            have c30b0 : decide (((rd_T237 t1346 x13_2).f0) < (x9_2.length : Int)) = true := decide_eq_true c30
            clear c30
            obtain ⟨y1351, hy1351⟩ : ∃ y_ : List Int, y_ = (x9_2.set (((rd_T237 t1346 x13_2).f0) : Int).toNat ((rd_T237 t1346 x13_2).f2)) := ⟨_, rfl⟩
            replace H : (spec_l5Bound.l1 k2 l0 a2 y1351 t1346 (wrap64 (x13_2 + 1))) = some r := by first | (rw [hy1351]; with_reducible exact H) | (have H2_ := (Option.bind_some _ _).symm.trans H; rw [hy1351]; with_reducible exact H2_) | (have H2_ := (Option.bind_some _ _).symm.trans H; with_reducible exact H2_) | with_reducible exact H | (rw [hy1351]; exact H) | exact H
            have Ny1351 := Aside0.mk hy1351
            clear hy1351
            have H' := Aside0.mk H
            clear H
            obtain ⟨Ao32, co32, eo32⟩ := Kd.R_slice HO_12.out
            subst eo32
            try go_wp2
            have n0_ := Aside0.mk (Kd.R_drew HO_9.out)
            have n1_ := Aside0.mk (Kd.R_drew HO_12.out)
            have n2_ := Aside0.mk (below_drew1 HB.out)
            clear HO_9
            clear HO_12
            clear HB
            have HO_9 := n0_
            have HO_12 := n1_
            have HB := n2_
            clear n0_ n1_ n2_
            have p1349 : 0 ≤ (x13_2 : Int) := of_decide_eq_true (by first | (with_reducible assumption) | assumption)
            have q1349 : x13_2 < (t1346.length : Int) := of_decide_eq_true (by first | (with_reducible assumption) | assumption)
            obtain ⟨ad1349, e1349, hx1349_0, hx1349_1, hx1349_2⟩ := at_T237 (Kd.R_reads' HO_12.out).2.2 x13_2 p1349 q1349
            cases e1349
            replace p1349 := eq_true p1349
            replace q1349 := eq_true q1349
            have p1350 : 0 ≤ (x13_2 : Int) := of_decide_eq_true (by first | (with_reducible assumption) | assumption)
            have q1350 : x13_2 < (t1346.length : Int) := of_decide_eq_true (by first | (with_reducible assumption) | assumption)
            obtain ⟨ad1350, e1350, hx1350_0, hx1350_1, hx1350_2⟩ := at_T237 (Kd.R_reads' HO_12.out).2.2 x13_2 p1350 q1350
            obtain rfl : ad1349 = ad1350 := (by injection e1350)
            replace p1350 := eq_true p1350
            replace q1350 := eq_true q1350
            have p31 : 0 ≤ (((rd_T237 t1346 x13_2).f0) : Int) := of_decide_eq_true (by first | (with_reducible assumption) | assumption)
            have q31 : (((rd_T237 t1346 x13_2).f0) : Int) < ((x9_2.length : Int) : Int) := of_decide_eq_true (by first | (with_reducible assumption) | assumption)
            obtain ⟨go31, co31, eo31, gb31, gl31, cl31, HG31⟩ := Kd.R_form HO_9.out (by omega)
            (first | cases eo31 | (injection eo31 with ea_ en_ ec_; (first | subst ea_ | (injection ea_ with ea_; subst ea_)); subst ec_; clear en_))
            have GB31 := Aside0.mk gb31
            have GG31 := Aside0.mk HG31
            clear gb31 gl31 HG31
            obtain ⟨hx31_0, hf31_0⟩ := Kd.R_celln 0 HO_9.out (((rd_T237 t1346 x13_2).f0) : Int) p31 q31
            replace p31 := eq_true p31
            replace q31 := eq_true q31
            have HP34 := Kd.R_putn HO_9.out (((rd_T237 t1346 x13_2).f0) : Int) ((rd_T237 t1346 x13_2).f2)
            rw [← Ny1351.out] at HP34
            have HQ34 := Aside0.mk HP34
            clear HP34
            refine start_ (n := 13) (S := fun w' => w'.cell? (ad1349.add ((x13_2).toNat * 3)) = some (.int .i64 ((rd_T237 t1346 x13_2).f0)) ∧ w'.cell? ⟨(ad1349.add ((x13_2).toNat * 3)).block, (ad1349.add ((x13_2).toNat * 3)).off + 1, none⟩ = some (.int .i64 ((rd_T237 t1346 x13_2).f1)) ∧ w'.cell? ⟨(ad1349.add ((x13_2).toNat * 3)).block, (ad1349.add ((x13_2).toNat * 3)).off + 2, none⟩ = some (.int .i64 ((rd_T237 t1346 x13_2).f2)) ∧ w'.cell? (ad1349.add ((x13_2).toNat * 3)) = some (.int .i64 ((rd_T237 t1346 x13_2).f0)) ∧ w'.cell? ⟨(ad1349.add ((x13_2).toNat * 3)).block, (ad1349.add ((x13_2).toNat * 3)).off + 1, none⟩ = some (.int .i64 ((rd_T237 t1346 x13_2).f1)) ∧ w'.cell? ⟨(ad1349.add ((x13_2).toNat * 3)).block, (ad1349.add ((x13_2).toNat * 3)).off + 2, none⟩ = some (.int .i64 ((rd_T237 t1346 x13_2).f2))) (ds := [12]) q165_15 (by kernel_rfl) rfl rfl ⟨hx1349_0, hx1349_1, hx1349_2, hx1350_0, hx1350_1, hx1350_2⟩ (fun hHeld => ?_); refine with_tabW spec_l5Bound.tab14 spec_l5Bound.bits14 (fun HT_ HW_ => ?_)
            generalize wr.drew = w33 at HO_9 HO_12 HB GG31 HQ34 hf31_0 hx1349_0 hx1349_1 hx1349_2 hx1350_0 hx1350_1 hx1350_2 hx31_0 hHeld ⊢
            refine pure_ (i := 0) (N := some 60) (v := ?_) (a' := ?_) q165_16 rfl rfl (any_of HT_.out (by kernel_rfl)) (fun _ _ _ h => h) (Or.inl ⟨by rfl, ?_⟩) ?_ ?_
            rotate_left
            ·intro w'
             go_simp
             with_reducible rfl
            rotate_left
            ·simp only [aq_]
             rfl
            refine pure_ (i := 1) (N := some 61) (v := ?_) (a' := ?_) q165_17 rfl rfl (any_of HT_.out (by kernel_rfl)) (fun _ _ _ h => h) (Or.inl ⟨by rfl, ?_⟩) ?_ ?_
            rotate_left
            ·intro w'
             go_simp
             with_reducible rfl
            rotate_left
            ·simp only [aq_]
             rfl
            refine pure_ (i := 2) (N := some 62) (v := ?_) (a' := ?_) q165_18 rfl rfl (any_of HT_.out (by kernel_rfl)) (fun _ _ _ h => h) (Or.inl ⟨by rfl, ?_⟩) ?_ ?_
            rotate_left
            ·intro w'
             go_simp
             with_reducible rfl
            rotate_left
            ·simp only [aq_]
             rfl
            refine pure_ (i := 3) (N := some 63) (v := ?_) (a' := ?_) q165_19 rfl rfl (any_of HT_.out (by kernel_rfl)) (fun _ _ _ h => h) (Or.inl ⟨by rfl, ?_⟩) ?_ ?_
            rotate_left
            ·intro w'
             go_simp
             with_reducible rfl
            rotate_left
            ·simp only [aq_]
             rfl
            refine pure_ (i := 4) (N := some 64) (v := ?_) (a' := ?_) q165_20 rfl rfl (any_of HT_.out (by kernel_rfl)) (fun _ _ _ h => h) (Or.inl ⟨by rfl, ?_⟩) ?_ ?_
            rotate_left
            ·intro w'
             go_simp
             with_reducible rfl
            rotate_left
            ·simp only [aq_]
             rfl
            refine pure_ (i := 6) (N := some 66) (v := ?_) (a' := ?_) q165_21 rfl rfl (any_of HT_.out (by kernel_rfl)) (fun _ _ _ h => h) (Or.inl ⟨by rfl, ?_⟩) ?_ ?_
            rotate_left
            ·intro w'
             go_simp
             with_reducible rfl
            rotate_left
            ·simp only [aq_]
             rfl
            refine pure_ (i := 7) (N := some 67) (v := ?_) (a' := ?_) q165_22 rfl rfl (any_of HT_.out (by kernel_rfl)) (fun _ _ _ h => h) (Or.inl ⟨by rfl, ?_⟩) ?_ ?_
            rotate_left
            ·intro w'
             go_simp
             with_reducible rfl
            rotate_left
            ·simp only [aq_]
             rfl
            refine pure_ (i := 8) (N := some 68) (v := ?_) (a' := ?_) q165_23 rfl rfl (any_of HT_.out (by kernel_rfl)) (fun _ _ _ h => h) (Or.inl ⟨by rfl, ?_⟩) ?_ ?_
            rotate_left
            ·intro w'
             go_simp
             with_reducible rfl
            rotate_left
            ·simp only [aq_]
             rfl
            refine pure_ (i := 9) (N := some 69) (v := ?_) (a' := ?_) q165_24 rfl rfl (any_of HT_.out (by kernel_rfl)) (fun _ _ _ h => h) (Or.inl ⟨by rfl, ?_⟩) ?_ ?_
            rotate_left
            ·intro w'
             go_simp
             with_reducible rfl
            rotate_left
            ·simp only [aq_]
             rfl
            refine take_ (i := 5) (N := some 65) (v := ?_) (a' := ?_) q165_25 rfl rfl (take_ofW HT_.out HW_.out (by kernel_rfl)) (fun _ _ _ h => h) (Or.inl ⟨by rfl, ?_⟩) hHeld ?_ ?_
            rotate_left
            ·rintro w' ⟨s0, s1, s2, s3, s4, s5⟩
             go_simp
             with_reducible rfl
            rotate_left
            ·simp only [aq_]
             rfl
            refine take_ (i := 10) (N := some 70) (v := ?_) (a' := ?_) q165_26 rfl rfl (take_ofW HT_.out HW_.out (by kernel_rfl)) (fun _ _ _ h => h) (Or.inl ⟨by rfl, ?_⟩) hHeld ?_ ?_
            rotate_left
            ·rintro w' ⟨s0, s1, s2, s3, s4, s5⟩
             go_simp
             with_reducible rfl
            rotate_left
            ·simp only [aq_]
             rfl
            refine pure_ (i := 11) (N := some 71) (v := ?_) (a' := ?_) q165_27 rfl rfl (any_of HT_.out (by kernel_rfl)) (fun _ _ _ h => h) (Or.inl ⟨by rfl, ?_⟩) ?_ ?_
            rotate_left
            ·intro w'
             go_simp
             with_reducible rfl
            rotate_left
            ·simp only [aq_]
             rfl
            refine last_ (i := 12) (N := none) q165_28 rfl rfl (one_of HT_.out (by kernel_rfl)) (by decide) (fun K hK => ?_)
            refine skip_ (w1 := ?_) (by rfl) rfl ?_ ?_
            rotate_left
            ·go_simp
             rfl
            refine hK.out _ _ ?_
            clear hK K
            refine done_ (done_of HT_.out (by kernel_rfl)) ?_
            try go_wp2
            go_roundg k2
            case measure => have := HK1.out; have := HK2.out; omega
            case rel => exact ⟨(y1351), (wrap64 (x13_2 + 1)), (by first | rfl | (simp; done) | (simp [*]; done)), H', ⟨by have := HK1.out; have := HK2.out; omega⟩, ⟨by (with_reducible repeat (first | apply Kd.R_alloc | apply Kd.R_drewN | apply Kd.R_drew)); exact HQ34.out⟩, ⟨by (with_reducible repeat (first | apply Kd.R_alloc | apply Kd.R_drewN | apply Kd.R_drew)); exact Kd.R_mono (Kd.R_far (p := ⟨go31, (((rd_T237 t1346 x13_2).f0) : Int).toNat, none⟩) (Kd.R_types HO_12.out GG31.out (by decide)) (fun _ hk => hk.2) (.int .i64 ((rd_T237 t1346 x13_2).f2))) (fun _ hk => trivial)⟩, ⟨by repeat (first | (with_reducible first | exact HB.out | apply below_alloc | apply pw_below_drewN | apply below_drew1 | refine below_set ?_ GB31.out) | exact HB.out)⟩⟩
           ·rw [if_neg c30] at H
            exact absurd H (by simp)
          ·rw [if_neg c29] at H
           exact absurd H (by simp)
         ·rw [if_neg c28] at H
          exact absurd H (by simp)
        ·rw [if_neg c27] at H
         have c27b0 : decide (x13_2 < (t1346.length : Int)) = false := decide_eq_false c27
         clear c27
         replace H := Option.bind_eq_some_iff.mp H
         obtain ⟨t1352, A350, H⟩ := H
         replace H : (some t1352) = some r := H
         have A35 := Aside0.mk A350
         clear A350
         obtain rfl := Option.some.inj H
         obtain ⟨Ao36, co36, eo36⟩ := Kd.R_slice HO_12.out
         subst eo36
         obtain ⟨Ao37, co37, eo37⟩ := Kd.R_slice HO_9.out
         subst eo37
         go_wp2_with (first | ((with_reducible refine gate_callee (f := 226) rfl ?_); refine goesL_ (some 75) rfl rfl Try.func226 (by kernel_rfl) rfl #[.slice A0 l0.length c0, .slice Ao37 x9_2.length co37, .int .i64 a2] rfl (by (try simp only [List.map_toArray, List.map_cons, List.map_nil]); first | done | rfl | (simp only [List.length_drop, List.length_take]; rfl)) ?_; (with_reducible refine (spec_l2Of.calls k2 _ _ l0 _ _ x9_2 a2 t1352 _ ?side1 ?side2 ?side3 ?side4 A35.out).mono ?_); (case side1 => repeat (first | exact (Kd.C_below HR0.out HB.out) | (with_reducible refine Kd.C_alloc ?_ _) | (with_reducible refine Kd.C_drewN ?_ _) | (with_reducible refine Kd.C_drew ?_))); (case side2 => exact HC0.out); (case side3 => repeat (first | exact (Kd.R_reads' HO_9.out).2.2 | (with_reducible refine Kd.C_alloc ?_ _) | (with_reducible refine Kd.C_drewN ?_ _) | (with_reducible refine Kd.C_drew ?_))); (case side4 => exact (Kd.R_reads' HO_9.out).2.1); rintro e w38 ⟨rfl, hb⟩; refine ⟨_, rfl, ?_⟩; have n0_ := Aside0.mk (Kd.R_below (by (with_reducible repeat (first | apply Kd.R_alloc | apply Kd.R_drewN | apply Kd.R_drew)); exact HO_9.out) hb); have n1_ := Aside0.mk (Kd.R_below (by (with_reducible repeat (first | apply Kd.R_alloc | apply Kd.R_drewN | apply Kd.R_drew)); exact HO_12.out) hb); have n2_ := Aside0.mk (below_step (by repeat (first | (with_reducible first | exact HB.out | apply below_alloc | apply pw_below_drewN | apply below_drew1) | exact HB.out)) hb); clear HO_9; clear HO_12; clear HB; have HO_9 := n0_; have HO_12 := n1_; have HB := n2_; clear n0_ n1_ n2_; (try clear hb); (try clear hb2); (try clear hk); (try clear hi)))
         go_ret
         exact ⟨by first | rfl | (simp [errW_none, errW_some] <;> rfl) | (simp [*, errW_none, errW_some] <;> rfl), by repeat (first | (with_reducible first | exact HB.out | apply below_alloc | apply pw_below_drewN | apply below_drew1) | exact HB.out)⟩
  ·rw [if_neg c6] at H
   exact absurd H (by simp)
 ·rw [if_neg c5] at H
  exact absurd H (by simp)

/-! ### impl_isSplitObjective: function 166 -/
def impl_isSplitObjective.f (a0 : Int) : Option (Bool) := if a0 = 2 then (some true) else (some (a0 == 4))
set_option maxHeartbeats 8000000 in
set_option maxRecDepth 100000 in
theorem impl_isSplitObjective.calls (a0 : Int) (r : Bool) (w : World) (h : impl_isSplitObjective.f a0 = some r) :
  Calls Try.prog 166 #[.int .i64 a0] w fun e w' => e = .returned (.bool r) ∧ Drawn0 w w' := by
 have H : (if a0 = 2 then (some true) else (some (a0 == 4))) = some r := h
 clear h
 by_cases c2 : a0 = 2
 ·rw [if_pos c2] at H
  have c2b0 : (a0 == 2) = true := beq_iff_eq.mpr c2
  have c2b1 : (a0 != 2) = false := bne_eq_false_iff_eq.mpr c2
  clear c2
  obtain rfl := Option.some.inj H
  go_enter Try.func166, Try.ntmps166
  go_wp2
  go_ret
  exact ⟨by first | rfl | (simp; done) | (simp [*]; done), by repeat (first | exact Drawn0.refl _ | apply Drawn0.step)⟩
 ·rw [if_neg c2] at H
  have c2b0 : (a0 == 2) = false := beq_eq_false_iff_ne.mpr c2
  have c2b1 : (a0 != 2) = true := bne_iff_ne.mpr c2
  obtain rfl := Option.some.inj H
  go_enter Try.func166, Try.ntmps166
  go_wp2
  go_ret
  exact ⟨by first | rfl | (simp; done) | (simp [*]; done), by repeat (first | exact Drawn0.refl _ | apply Drawn0.step)⟩

end Go.Proofs.Ytcgbmfcnjgmnjaa.X
