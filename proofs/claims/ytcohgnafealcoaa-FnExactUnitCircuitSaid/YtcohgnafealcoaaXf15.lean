-- Written by a program of this session (wip/gen/xp.py, over the kit's printer). Not trusted: Lean checks it.
import Derived.Test.YtcohgnafealcoaaX0
import Derived.Test.YtcohgnafealcoaaXf10
import Derived.Test.YtcohgnafealcoaaXf5
namespace Go.Proofs.Ytcohgnafealcoaa.X
open Go.RowKit Go.Proofs.YtcohgnafealcoaaW.PrintWords Go.Proofs.YtcohgnafealcoaaW.PrintLast Go.Proofs.YtcohgnafealcoaaW.PrintMore
attribute [local go_sem] max2_int min2_int max_two min_two max_three min_three max_four min_four   -- for this text's walks alone
set_option linter.unusedVariables false
set_option linter.unusedSimpArgs false

/-! ### spec_l10Unit: function 53 -/
def spec_l10Unit.l0 : Nat → List (S43) → Int → Option (Bool)
 | 0, _, _ => none
 | k + 1, x0, x3 => if x3 < (x0.length : Int) then (if 0 ≤ x3 then (if ((rd_T43 x0 x3).f0) = 1 then (spec_l10Unit.l0 k x0 (wrap64 (x3 + 1))) else (some false)) else (none)) else ((spec_l6Good.f k x0).bind fun t286 => (some t286))
def spec_l10Unit.f (k : Nat) (l0 : List (S43)) : Option (Bool) := spec_l10Unit.l0 k l0 0
theorem spec_l10Unit.mono_l : ∀ k, (∀ y0 y1, LeO (spec_l10Unit.l0 k y0 y1) (spec_l10Unit.l0 (k + 1) y0 y1))
 | 0 => fun _ _ r h => by simp [spec_l10Unit.l0] at h
 | k + 1 => by
  have ih0 := spec_l10Unit.mono_l k
  ·intro y0 y1
   unfold spec_l10Unit.l0
   repeat' first
   | (with_reducible exact ih0 _ _)
   | (with_reducible exact spec_l6Good.mono _ _)
   | (with_reducible exact LeO.refl _)
   | (with_reducible exact LeO.none _)
   | (with_reducible refine LeO.ite ?_ ?_)
   | (with_reducible refine LeO.bind ?_ (fun _ => ?_))
   | exact ih0 _ _
   | exact spec_l6Good.mono _ _
   | exact LeO.none _
   | refine LeO.ite ?_ ?_
   | refine LeO.bind ?_ (fun _ => ?_)
theorem spec_l10Unit.mono : ∀ a0 k, LeO (spec_l10Unit.f k a0) (spec_l10Unit.f (k + 1) a0) := by
 intro a0 k
 have ih0 := spec_l10Unit.mono_l k
 unfold spec_l10Unit.f
 repeat' first
   | (with_reducible exact ih0 _ _)
   | (with_reducible exact spec_l6Good.mono _ _)
   | (with_reducible exact LeO.refl _)
   | (with_reducible exact LeO.none _)
   | (with_reducible refine LeO.ite ?_ ?_)
   | (with_reducible refine LeO.bind ?_ (fun _ => ?_))
   | exact ih0 _ _
   | exact spec_l6Good.mono _ _
   | exact LeO.none _
   | refine LeO.ite ?_ ?_
   | refine LeO.bind ?_ (fun _ => ?_)
set_option maxHeartbeats 8000000 in
set_option maxRecDepth 100000 in
theorem spec_l10Unit.calls (k : Nat) (A0 : Option Addr) (c0 : Nat) (l0 : List (S43)) (r : Bool) (w : World) (hr0 : Kd.C k43 w A0 l0.length l0) (hc0 : l0.length ≤ c0) (h : spec_l10Unit.f k l0 = some r) :
  Calls Try.prog 53 #[.slice A0 l0.length c0] w fun e w' => e = .returned (.bool r) ∧ Below w.heap.size w w' := by
 have HR0 := Aside0.mk hr0
 have HC0 := Aside0.mk hc0
 clear hr0 hc0
 have HB := Aside0.mk (Below.refl w.heap.size w)
 have H : (spec_l10Unit.l0 k l0 0) = some r := h
 clear h
 have H' := Aside0.mk H
 clear H
 go_enter Try.func53, Try.ntmps53
 go_wp2
 go_loopg [3] k (fun kq v3 w' => ∃ (x3_1 : Int), v3 = .int .i64 x3_1 ∧ Aside0 (spec_l10Unit.l0 kq l0 x3_1 = some r) ∧ Aside0 (kq ≤ k) ∧ Aside0 (Below w.heap.size w w'))
 case atStart => exact ⟨(0), (by first | rfl | (simp; done) | (simp [*]; done)), H', ⟨Nat.le_refl _⟩, ⟨bw HB.out⟩⟩
 case round =>
  clear H'
  obtain ⟨x3_1, rfl, HA, HK1, HB⟩ := hrel
  cases gk with
  | zero => exact absurd HA.out (by simp [spec_l10Unit.l0])
  | succ k1 =>
   have H := HA.out
   clear HA
   simp only [spec_l10Unit.l0] at H
   by_cases c2 : x3_1 < (l0.length : Int)
   rotate_left
   ·rw [if_neg c2] at H
    have c2b0 : decide (x3_1 < (l0.length : Int)) = false := decide_eq_false c2
    clear c2
    replace H := Option.bind_eq_some_iff.mp H
    obtain ⟨t286, A50, H⟩ := H
    replace H : (some t286) = some r := H
    have A5 := Aside0.mk A50
    clear A50
    obtain rfl := Option.some.inj H
    go_wp2_with (first | ((with_reducible refine gate_callee (f := 17) rfl ?_); refine goesL_ (some 17) rfl rfl Try.func17 (by kernel_rfl) rfl #[.slice A0 l0.length c0] rfl (by (try simp only [mA_]); first | done | rfl | (simp only [List.length_drop, List.length_take]; rfl)) ?_; (with_reducible refine (spec_l6Good.calls k1 _ _ l0 t286 _ ?side1 ?side2 A5.out).mono ?_); (case side1 => first | exact bC HR0.out HB.out | exact Kd.C_below HR0.out HB.out); (case side2 => exact HC0.out); rintro e w6 ⟨rfl, hb⟩; refine ⟨_, rfl, ?_⟩; have n0_ := Aside0.mk (below_step (bw HB.out) hb); replace HB := n0_; clear n0_; (try clear hb); (try clear hb2); (try clear hk); (try clear hi)))
    go_ret
    exact ⟨by first | rfl | (simp [errW_none, errW_some] <;> rfl) | (simp [*, errW_none, errW_some] <;> rfl), bw HB.out⟩
   rw [if_pos c2] at H
   have c2b0 : decide (x3_1 < (l0.length : Int)) = true := decide_eq_true c2
   clear c2
   by_cases c3 : 0 ≤ x3_1
   rotate_left
   ·rw [if_neg c3] at H
    exact absurd H (by simp)
   rw [if_pos c3] at H
   have c3b0 : decide (0 ≤ x3_1) = true := decide_eq_true c3
   clear c3
   by_cases c4 : ((rd_T43 l0 x3_1).f0) = 1
   rotate_left
   ·rw [if_neg c4] at H
    have c4b0 : (((rd_T43 l0 x3_1).f0) == 1) = false := beq_eq_false_iff_ne.mpr c4
    have c4b1 : (((rd_T43 l0 x3_1).f0) != 1) = true := bne_iff_ne.mpr c4
    obtain rfl := Option.some.inj H
    have p285 : 0 ≤ (x3_1 : Int) := of_decide_eq_true (by first | (with_reducible assumption) | assumption)
    have q285 : x3_1 < (l0.length : Int) := of_decide_eq_true (by first | (with_reducible assumption) | assumption)
    obtain ⟨ad285, e285, hx285_0, hx285_1, hx285_2, hx285_3⟩ := at_T43 HR0.out x3_1 p285 q285
    cases e285
    replace hx285_0 := (HB.out.cell (World.block_lt_of_cell? w _ hx285_0)).trans hx285_0
    replace hx285_1 := (HB.out.cell (World.block_lt_of_cell? w _ hx285_1)).trans hx285_1
    replace hx285_2 := (HB.out.cell (World.block_lt_of_cell? w _ hx285_2)).trans hx285_2
    replace hx285_3 := (HB.out.cell (World.block_lt_of_cell? w _ hx285_3)).trans hx285_3
    replace p285 := eq_true p285
    replace q285 := eq_true q285
    go_wp2
    go_ret
    exact ⟨by first | rfl | (simp [errW_none, errW_some] <;> rfl) | (simp [*, errW_none, errW_some] <;> rfl), bw HB.out⟩
   rw [if_pos c4] at H
   have c4b0 : (((rd_T43 l0 x3_1).f0) == 1) = true := beq_iff_eq.mpr c4
   have c4b1 : (((rd_T43 l0 x3_1).f0) != 1) = false := bne_eq_false_iff_eq.mpr c4
   clear c4
   have H' := Aside0.mk H
   clear H
   have p285 : 0 ≤ (x3_1 : Int) := of_decide_eq_true (by first | (with_reducible assumption) | assumption)
   have q285 : x3_1 < (l0.length : Int) := of_decide_eq_true (by first | (with_reducible assumption) | assumption)
   obtain ⟨ad285, e285, hx285_0, hx285_1, hx285_2, hx285_3⟩ := at_T43 HR0.out x3_1 p285 q285
   cases e285
   replace hx285_0 := (HB.out.cell (World.block_lt_of_cell? w _ hx285_0)).trans hx285_0
   replace hx285_1 := (HB.out.cell (World.block_lt_of_cell? w _ hx285_1)).trans hx285_1
   replace hx285_2 := (HB.out.cell (World.block_lt_of_cell? w _ hx285_2)).trans hx285_2
   replace hx285_3 := (HB.out.cell (World.block_lt_of_cell? w _ hx285_3)).trans hx285_3
   replace p285 := eq_true p285
   replace q285 := eq_true q285
   go_wp2
   go_roundg k1
   case measure => have := HK1.out; omega
   case rel => exact ⟨(wrap64 (x3_1 + 1)), (by first | rfl | (simp; done) | (simp [*]; done)), H', ⟨by have := HK1.out; omega⟩, ⟨bw HB.out⟩⟩

/-! ### spec_l10Free: function 30 -/
def spec_l10Free.f (k : Nat) (l0 : List (S43)) (l1 : List Int) : Option (Bool) := (spec_l10Unit.f k l0).bind fun t287 => (if t287 = true then ((spec_l6Set.f k l0 l1).bind fun t288 => (if t288 = true then ((spec_l6Timely.f k l0 l1).bind fun t289 => (some t289)) else (some false))) else (some false))
theorem spec_l10Free.mono : ∀ a0 a1 k, LeO (spec_l10Free.f k a0 a1) (spec_l10Free.f (k + 1) a0 a1) := by
 intro a0 a1 k
 unfold spec_l10Free.f
 repeat' first
   | (with_reducible exact spec_l10Unit.mono _ _)
   | (with_reducible exact spec_l6Set.mono _ _ _)
   | (with_reducible exact spec_l6Timely.mono _ _ _)
   | (with_reducible exact LeO.refl _)
   | (with_reducible exact LeO.none _)
   | (with_reducible refine LeO.ite ?_ ?_)
   | (with_reducible refine LeO.bind ?_ (fun _ => ?_))
   | exact spec_l10Unit.mono _ _
   | exact spec_l6Set.mono _ _ _
   | exact spec_l6Timely.mono _ _ _
   | exact LeO.none _
   | refine LeO.ite ?_ ?_
   | refine LeO.bind ?_ (fun _ => ?_)
set_option maxHeartbeats 8000000 in
set_option maxRecDepth 100000 in
theorem spec_l10Free.calls (k : Nat) (A0 : Option Addr) (c0 : Nat) (l0 : List (S43)) (A1 : Option Addr) (c1 : Nat) (l1 : List Int) (r : Bool) (w : World) (hr0 : Kd.C k43 w A0 l0.length l0) (hc0 : l0.length ≤ c0) (hr1 : Kd.C (Kd.int .i64) w A1 l1.length l1) (hc1 : l1.length ≤ c1) (h : spec_l10Free.f k l0 l1 = some r) :
  Calls Try.prog 30 #[.slice A0 l0.length c0, .slice A1 l1.length c1] w fun e w' => e = .returned (.bool r) ∧ Below w.heap.size w w' := by
 have HR0 := Aside0.mk hr0
 have HC0 := Aside0.mk hc0
 clear hr0 hc0
 have HR1 := Aside0.mk hr1
 have HC1 := Aside0.mk hc1
 clear hr1 hc1
 have HB := Aside0.mk (Below.refl w.heap.size w)
 have H : ((spec_l10Unit.f k l0).bind fun t287 => (if t287 = true then ((spec_l6Set.f k l0 l1).bind fun t288 => (if t288 = true then ((spec_l6Timely.f k l0 l1).bind fun t289 => (some t289)) else (some false))) else (some false))) = some r := h
 clear h
 replace H := Option.bind_eq_some_iff.mp H
 obtain ⟨t287, A30, H⟩ := H
 replace H : (if t287 = true then ((spec_l6Set.f k l0 l1).bind fun t288 => (if t288 = true then ((spec_l6Timely.f k l0 l1).bind fun t289 => (some t289)) else (some false))) else (some false)) = some r := H
 have A3 := Aside0.mk A30
 clear A30
 by_cases c4 : t287 = true
 rotate_left
 ·replace c4 := Bool.eq_false_iff.mpr c4
  subst c4
  have H1 : (some false) = some r := by rw [if_neg (show ¬ (false = true) by decide)] at H; exact H
  clear H
  have H := H1
  clear H1
  obtain rfl := Option.some.inj H
  go_enter Try.func30, Try.ntmps30
  go_wp2_with (first | ((with_reducible refine gate_callee (f := 53) rfl ?_); refine goesL_ (some 6) rfl rfl Try.func53 (by kernel_rfl) rfl #[.slice A0 l0.length c0] rfl (by (try simp only [mA_]); first | done | rfl | (simp only [List.length_drop, List.length_take]; rfl)) ?_; (with_reducible refine (spec_l10Unit.calls k _ _ l0 false _ ?side1 ?side2 A3.out).mono ?_); (case side1 => repeat (first | exact HR0.out | (with_reducible refine Kd.C_alloc ?_ _) | (with_reducible refine Kd.C_drewN ?_ _) | (with_reducible refine Kd.C_drew ?_))); (case side2 => exact HC0.out); rintro e w11 ⟨rfl, hb⟩; refine ⟨_, rfl, ?_⟩; have n0_ := Aside0.mk (below_step (bw HB.out) hb); replace HB := n0_; clear n0_; (try clear hb); (try clear hb2); (try clear hk); (try clear hi)))
  go_ret
  exact ⟨by first | rfl | (simp [errW_none, errW_some] <;> rfl) | (simp [*, errW_none, errW_some] <;> rfl), bw HB.out⟩
 subst c4
 have H1 : ((spec_l6Set.f k l0 l1).bind fun t288 => (if t288 = true then ((spec_l6Timely.f k l0 l1).bind fun t289 => (some t289)) else (some false))) = some r := by rw [if_pos rfl] at H; exact H
 clear H
 have H := H1
 clear H1
 replace H := Option.bind_eq_some_iff.mp H
 obtain ⟨t288, A50, H⟩ := H
 replace H : (if t288 = true then ((spec_l6Timely.f k l0 l1).bind fun t289 => (some t289)) else (some false)) = some r := H
 have A5 := Aside0.mk A50
 clear A50
 by_cases c6 : t288 = true
 rotate_left
 ·replace c6 := Bool.eq_false_iff.mpr c6
  subst c6
  have H1 : (some false) = some r := by rw [if_neg (show ¬ (false = true) by decide)] at H; exact H
  clear H
  have H := H1
  clear H1
  obtain rfl := Option.some.inj H
  go_enter Try.func30, Try.ntmps30
  go_wp2_with (first | ((with_reducible refine gate_callee (f := 53) rfl ?_); refine goesL_ (some 6) rfl rfl Try.func53 (by kernel_rfl) rfl #[.slice A0 l0.length c0] rfl (by (try simp only [mA_]); first | done | rfl | (simp only [List.length_drop, List.length_take]; rfl)) ?_; (with_reducible refine (spec_l10Unit.calls k _ _ l0 true _ ?side1 ?side2 A3.out).mono ?_); (case side1 => repeat (first | exact HR0.out | (with_reducible refine Kd.C_alloc ?_ _) | (with_reducible refine Kd.C_drewN ?_ _) | (with_reducible refine Kd.C_drew ?_))); (case side2 => exact HC0.out); rintro e w10 ⟨rfl, hb⟩; refine ⟨_, rfl, ?_⟩; have n0_ := Aside0.mk (below_step (bw HB.out) hb); replace HB := n0_; clear n0_; (try clear hb); (try clear hb2); (try clear hk); (try clear hi)) | (go_at_call 18; (with_reducible refine (spec_l6Set.calls k _ _ l0 _ _ l1 false _ ?side1 ?side2 ?side3 ?side4 A5.out).mono ?_); (case side1 => first | exact bC HR0.out HB.out | exact Kd.C_below HR0.out HB.out); (case side2 => exact HC0.out); (case side3 => first | exact bC HR1.out HB.out | exact Kd.C_below HR1.out HB.out); (case side4 => exact HC1.out); rintro e w' ⟨rfl, ⟨nd, rfl⟩⟩))
  go_ret
  exact ⟨by first | rfl | (simp [errW_none, errW_some] <;> rfl) | (simp [*, errW_none, errW_some] <;> rfl), bw HB.out⟩
 subst c6
 have H1 : ((spec_l6Timely.f k l0 l1).bind fun t289 => (some t289)) = some r := by rw [if_pos rfl] at H; exact H
 clear H
 have H := H1
 clear H1
 replace H := Option.bind_eq_some_iff.mp H
 obtain ⟨t289, A70, H⟩ := H
 replace H : (some t289) = some r := H
 have A7 := Aside0.mk A70
 clear A70
 obtain rfl := Option.some.inj H
 go_enter Try.func30, Try.ntmps30
 go_wp2_with (first | ((with_reducible refine gate_callee (f := 53) rfl ?_); refine goesL_ (some 6) rfl rfl Try.func53 (by kernel_rfl) rfl #[.slice A0 l0.length c0] rfl (by (try simp only [mA_]); first | done | rfl | (simp only [List.length_drop, List.length_take]; rfl)) ?_; (with_reducible refine (spec_l10Unit.calls k _ _ l0 true _ ?side1 ?side2 A3.out).mono ?_); (case side1 => repeat (first | exact HR0.out | (with_reducible refine Kd.C_alloc ?_ _) | (with_reducible refine Kd.C_drewN ?_ _) | (with_reducible refine Kd.C_drew ?_))); (case side2 => exact HC0.out); rintro e w8 ⟨rfl, hb⟩; refine ⟨_, rfl, ?_⟩; have n0_ := Aside0.mk (below_step (bw HB.out) hb); replace HB := n0_; clear n0_; (try clear hb); (try clear hb2); (try clear hk); (try clear hi)) | (go_at_call 18; (with_reducible refine (spec_l6Set.calls k _ _ l0 _ _ l1 true _ ?side1 ?side2 ?side3 ?side4 A5.out).mono ?_); (case side1 => first | exact bC HR0.out HB.out | exact Kd.C_below HR0.out HB.out); (case side2 => exact HC0.out); (case side3 => first | exact bC HR1.out HB.out | exact Kd.C_below HR1.out HB.out); (case side4 => exact HC1.out); rintro e w' ⟨rfl, ⟨nd, rfl⟩⟩) | (go_at_call 19; (with_reducible refine (spec_l6Timely.calls k _ _ l0 _ _ l1 t289 _ ?side1 ?side2 ?side3 ?side4 A7.out).mono ?_); (case side1 => repeat (first | exact (Kd.C_below HR0.out (bw HB.out)) | (with_reducible refine Kd.C_alloc ?_ _) | (with_reducible refine Kd.C_drewN ?_ _) | (with_reducible refine Kd.C_drew ?_))); (case side2 => exact HC0.out); (case side3 => repeat (first | exact (Kd.C_below HR1.out (bw HB.out)) | (with_reducible refine Kd.C_alloc ?_ _) | (with_reducible refine Kd.C_drewN ?_ _) | (with_reducible refine Kd.C_drew ?_))); (case side4 => exact HC1.out); rintro e w9 ⟨rfl, hb⟩; have n0_ := Aside0.mk (below_step (bw HB.out) hb); replace HB := n0_; clear n0_; (try clear hb); (try clear hb2); (try clear hk); (try clear hi)))
 go_ret
 exact ⟨by first | rfl | (simp [errW_none, errW_some] <;> rfl) | (simp [*, errW_none, errW_some] <;> rfl), bw HB.out⟩

/-! ### spec_l1Put: function 33 -/
abbrev q33_0 : Array Bool := ⟨rl_ [13] false⟩
abbrev q33_1 : Array Bool := ⟨rl_ [7, 1, 3, 2] true⟩
abbrev q33_2 : Array Bool := ⟨rl_ [4, 1, 1, 2, 3, 2] true⟩
abbrev q33_3 : Array Bool := ⟨rl_ [1, 3, 1, 2, 1, 3, 2] false⟩
abbrev q33_4 : Array Bool := ⟨rl_ [6, 2, 3, 2] true⟩
abbrev q33_5 : Array Bool := ⟨rl_ [4, 1, 2, 1, 3, 2] true⟩
abbrev q33_6 : Array Bool := ⟨rl_ [11, 2] true⟩
abbrev q33_7 : Array Bool := ⟨rl_ [12, 1] true⟩
/-- How many of a row are smaller. -/
def spec_l1Put.posR (x : Int) : List Int → Nat
 | [] => 0
 | y :: r => if y < x then spec_l1Put.posR x r + 1 else 0
theorem spec_l1Put.posR_le (x : Int) : ∀ r : List Int, spec_l1Put.posR x r ≤ r.length
 | [] => Nat.le_refl _
 | y :: r => by
  rw [spec_l1Put.posR]
  have := spec_l1Put.posR_le x r
  split
  ·simp; omega
  ·simp
/-- A number that is not in the row is put into it (where it is there the contract tells nothing). -/
def spec_l1Put.f (l0 : List Int) (a1 : Int) : Option (List (Int)) := if a1 ∈ l0 then none else if l0.length ≤ 1000000 then some (l0.take (spec_l1Put.posR a1 l0) ++ a1 :: l0.drop (spec_l1Put.posR a1 l0)) else none
set_option maxHeartbeats 8000000 in
set_option maxRecDepth 100000 in
theorem spec_l1Put.calls (A0 : Option Addr) (c0 : Nat) (l0 : List Int) (a1 : Int) (r : List (Int)) (w : World) (hr0 : Kd.C (Kd.int .i64) w A0 l0.length l0) (hc0 : l0.length ≤ c0) (h : spec_l1Put.f l0 a1 = some r) :
  Calls Try.prog 33 #[.slice A0 l0.length c0, .int .i64 a1] w fun e w' => ∃ v0_ : Value, e = .returned (v0_) ∧ Kd.R (Kd.int .i64) 3 w' w.heap.size (fun _ => True) v0_ r ∧ Below w.heap.size w w' := by
 unfold spec_l1Put.f at h
 split at h
 case isTrue => cases h
 case isFalse hni =>
 split at h
 case isFalse => cases h
 case isTrue hn =>
 obtain ⟨kk, hkk⟩ : ∃ kk, kk = spec_l1Put.posR a1 l0 := ⟨_, rfl⟩
 have HKL := Aside0.mk (show kk ≤ l0.length from hkk ▸ spec_l1Put.posR_le a1 l0)
 have HK := Aside0.mk (show spec_l1Put.posR a1 l0 = kk from hkk.symm)
 rw [← hkk, Option.some.injEq] at h
 have HR1 := Aside0.mk h
 have HNI := Aside0.mk hni
 have HR0 := Aside0.mk hr0
 have HC0 := Aside0.mk hc0
 have HL := Aside0.mk hn
 have HB := Aside0.mk (Below.refl w.heap.size w)
 clear hr0 hc0 hn h hni hkk
 go_enter Try.func33, Try.ntmps33
 go_wp2
 go_loopg [5] l0.length (fun q v5 w' => ∃ (j : Nat) (rs : List Int), v5 = .int .i64 (j : Int) ∧ Aside0 (j + q = l0.length) ∧ Aside0 (rs = l0.drop j) ∧ Aside0 (j + spec_l1Put.posR a1 rs = kk) ∧ Aside0 (Below w.heap.size w w'))
 case atStart => exact ⟨0, l0, rfl, ⟨Nat.zero_add _⟩, ⟨rfl⟩, ⟨by rw [HK.out]; omega⟩, HB⟩
 case round =>
  clear HK HB
  obtain ⟨j, rs, rfl, HJ, HRest, HK, HB⟩ := hrel
  have hj := HJ.out
  by_cases hjl : j < l0.length
  rotate_left
  ·have d1 : decide ((j : Int) < (l0.length : Int)) = false := decide_eq_false (by omega)
   have d1n : decide (j < l0.length) = false := decide_eq_false (by omega)
   have HJK : Aside0 (j = kk ∧ kk ≤ l0.length) := ⟨by
    have h1 := HK.out
    have h2 : rs = [] := by rw [HRest.out]; exact List.drop_eq_nil_of_le (by omega)
    rw [h2] at h1
    have h3 : spec_l1Put.posR a1 [] = 0 := rfl
    have := HKL.out
    omega⟩
   clear hj hjl HK HRest
   go_wp2
   obtain ⟨hjk, hkl⟩ := HJK.out
   subst hjk
   have HAP := Aside0.mk (show (l0.take j ++ [a1]).length + (l0.length - j) ≤ 1000001 from by have := HL.out; simp only [List.length_append, List.length_take, List.length_cons, List.length_nil]; omega)
   have hcL := HC0.out
   have hoM : l0.length ≤ 1000000 := HL.out
   have s1 := eq_true (show 0 ≤ (j : Int) by omega)
   have s2 := eq_true (show (j : Int) ≤ (l0.length : Int) by omega)
   have s3 := eq_true (show (j : Int) ≤ (c0 : Int) by omega)
   have s4 := eq_true (show j ≤ c0 by omega)
   have s5 := eq_true (show j ≤ l0.length by omega)
   have s6 := eq_true (show l0.length ≤ c0 by omega)
   have s7 := eq_true (show (l0.length : Int) ≤ (c0 : Int) by omega)
   have n1 := Aside0.mk (below_drew1 HB.out)
   replace HB := n1
   clear n1
   refine start_ (n := 13) (S := fun _ => True) (ds := []) q33_0 (by kernel_rfl) rfl rfl trivial (fun hHeld => ?_)
   generalize wr.drew = w25 at HB hHeld ⊢
   refine puq_ (i := 1) (N := some 34) rfl rfl (by kernel_rfl) (fun _ _ _ h => h) (Or.inl ⟨by rfl, by intro w'; go_simp; with_reducible rfl⟩) (by simp only [aq_]; rfl) ?_
   refine puq_ (i := 2) (N := some 35) rfl rfl (by kernel_rfl) (fun _ _ _ h => h) (Or.inl ⟨by rfl, by intro w'; go_simp; with_reducible rfl⟩) (by simp only [aq_]; rfl) ?_
   refine puq_ (i := 3) (N := some 36) rfl rfl (by kernel_rfl) (fun _ _ _ h => h) (Or.inl ⟨by rfl, by intro w'; go_simp; with_reducible rfl⟩) (by simp only [aq_]; rfl) ?_
   refine puq_ (i := 5) (N := some 38) rfl rfl (by kernel_rfl) (fun _ _ _ h => h) (Or.inl ⟨by rfl, by intro w'; go_simp; with_reducible rfl⟩) (by simp only [aq_]; rfl) ?_
   refine puq_ (i := 8) (N := some 41) rfl rfl (by kernel_rfl) (fun _ _ _ h => h) (Or.inl ⟨by rfl, by intro w'; go_simp; with_reducible rfl⟩) (by simp only [aq_]; rfl) ?_
   refine puq_ (i := 9) (N := some 42) rfl rfl (by kernel_rfl) (fun _ _ _ h => h) (Or.inl ⟨by rfl, by intro w'; go_simp; with_reducible rfl⟩) (by simp only [aq_]; rfl) ?_
   refine puq_ (i := 10) (N := some 43) rfl rfl (by kernel_rfl) (fun _ _ _ h => h) (Or.inl ⟨by rfl, by intro w'; go_simp; with_reducible rfl⟩) (by simp only [aq_]; rfl) ?_
   refine join_ (σ := Value × Value × Value) 3 q33_1 (fun s_ => [(33, s_.1), (37, s_.2.1), (39, s_.2.2)]) (fun s_ w' => Kd.R (Kd.int .i64) 3 w' w.heap.size (fun _ => True) s_.2.1 (l0.take j) ∧ Kd.R (Kd.int .i64) 3 w' w.heap.size (fun _ => True) s_.2.2 ([a1]) ∧ Below w.heap.size w w') ?_ ?_
   rotate_left
   ·intro hCont
    refine two_ (i := 0) (j := 6) (Ni := some 33) (Nj := some 39) q33_2 q33_3 rfl rfl rfl rfl (by kernel_rfl) (by decide) (by decide) (fun K hK => ?_) (fun K hK => ?_)
    ·skip
     refine Kd.R_lit_step (Kd.int .i64) _ 3 ?hg (N := 33) ?hd (xs := ([] : List Int)) (inner := []) (ok := fun _ => True) (okp := fun _ => True) ?hr ?hp (fun _ hk => hk) trivial (Below.refl _ _) (Nat.le_refl _) (by simp) ?_
     case hd => rfl
     case hg => rfl
     case hr => first | (go_simp; done) | (go_simp; rfl)
     case hp => exact (Reps.none _ _)
     intro v33 w33 ho4 hb2 hg_ hnew_
     clear hg_ hnew_
     have m1 := Aside0.mk (Kd.R_lower ho4 (below_size (bw HB.out)))
     have m2 := Aside0.mk (below_step (bw HB.out) hb2)
     have HO0 := m1
     replace HB := m2
     clear m1 m2 hb2 ho4
     refine hK.out _ _ trivial (fun hHeld => ?_)
     clear hK K
     refine norm_ (a' := ?_) ?_ ?_
     rotate_left
     ·show Act.put _ (some 33) _ = _
      simp only [aq_]
      rfl
     refine two_ (i := 4) (j := 6) (Ni := some 37) (Nj := some 39) q33_4 q33_5 rfl rfl rfl rfl (by kernel_rfl) (by decide) (by decide) (fun K hK => ?_) (fun K hK => ?_)
     ·skip
      refine Kd.R_append_rows_step (Kd.int .i64) (w0 := w) w.heap.size (by rfl) (.tmp 33) (.tmp 36) 23 3 (.int .i64 0) 8 rfl Try.underlying23 info3 rfl (by decide) (by omega) v33 ([] : List Int) (l0.take j) _ _ _ (fun _ => True) (fun _ => False) rfl rfl ?aO ?aR (fun _ _ h => h) (fun _ h => h.elim) ?aF ?aB ?aS ?aL ?_
      case aO => exact HO0.out
      case aR =>
       have hct := Kd.C_take (Kd.C_below HR0.out HB.out) hkl
       rw [List.length_take, Nat.min_eq_left hkl] at hct
       exact hct
      case aF => exact (fun _ _ => trivial)
      case aB => exact bw HB.out
      case aS => exact below_size (bw HB.out)
      case aL => first | omega | (simp only [List.length_take, List.length_cons, List.length_nil]; omega)
      intro v37 w37 ho4 hb2 hg4 hat4
      have m1 := Aside0.mk ho4
      have m2 := Aside0.mk hb2
      have HO1 := m1
      replace HB := m2
      clear m1 m2 hb2 ho4 hg4 hat4 HO0
      refine hK.out _ _ trivial (fun hHeld => ?_)
      clear hK K
      refine norm_ (a' := ?_) ?_ ?_
      rotate_left
      ·show Act.put _ (some 37) _ = _
       simp only [aq_]
       rfl
      refine one_ (i := 6) (N := some 39) q33_1 rfl rfl (by kernel_rfl) (by decide) (fun K hK => ?_)
      refine Kd.R_lit_step (Kd.int .i64) _ 3 ?hg (N := 39) ?hd (xs := ([a1] : List Int)) (inner := [.int .i64 (a1)]) (ok := fun _ => True) (okp := fun _ => True) ?hr ?hp (fun _ hk => hk) trivial (Below.refl _ _) (Nat.le_refl _) (by simp) ?_
      case hd => rfl
      case hg => rfl
      case hr => first | (go_simp; done) | (go_simp; rfl)
      case hp => exact (Reps.one (show Kd.M (Kd.int .i64) _ _ _ (a1) [.int .i64 (a1)] from rfl) (Reps.none _ _))
      intro v39 w39 ho4 hb2 hg_ hnew_
      clear hg_ hnew_
      have m4 := Aside0.mk (Kd.R_lower ho4 (below_size (bw HB.out)))
      have m5 := Aside0.mk (Kd.R_below (bR HO1.out) hb2)
      have m2 := Aside0.mk (below_step (bw HB.out) hb2)
      have HOy := m4
      replace HO1 := m5
      replace HB := m2
      clear m2 m4 hb2 ho4 m5
      refine hK.out _ _ trivial (fun hHeld => ?_)
      clear hK K
      refine norm_ (a' := ?_) ?_ ?_
      rotate_left
      ·show Act.put _ (some 39) _ = _
       simp only [aq_]
       rfl
      exact norm_ (by simp only [putAll, Act.put, List.setIfInBounds_toArray, List.set_cons_zero, List.set_cons_succ]) (hCont (v33, v37, v39) _ ⟨(by first | exact Kd.R_mono HO1.out (fun _ _ => trivial) | exact Kd.R_mono (bR HO1.out) (fun _ _ => trivial)), (by first | exact Kd.R_mono HOy.out (fun _ _ => trivial) | exact Kd.R_mono (bR HOy.out) (fun _ _ => trivial)), bw HB.out⟩)
     ·skip
      refine Kd.R_lit_step (Kd.int .i64) _ 3 ?hg (N := 39) ?hd (xs := ([a1] : List Int)) (inner := [.int .i64 (a1)]) (ok := fun _ => True) (okp := fun _ => True) ?hr ?hp (fun _ hk => hk) trivial (Below.refl _ _) (Nat.le_refl _) (by simp) ?_
      case hd => rfl
      case hg => rfl
      case hr => first | (go_simp; done) | (go_simp; rfl)
      case hp => exact (Reps.one (show Kd.M (Kd.int .i64) _ _ _ (a1) [.int .i64 (a1)] from rfl) (Reps.none _ _))
      intro v39 w39 ho4 hb2 hg_ hnew_
      clear hg_ hnew_
      have m3 := Aside0.mk (Kd.R_new' ho4 (Kd.R_lt (bR HO0.out)))
      have m4 := Aside0.mk (Kd.R_lower m3.out (below_size (bw HB.out)))
      have m5 := Aside0.mk (Kd.R_below (bR HO0.out) hb2)
      clear m3
      have m2 := Aside0.mk (below_step (bw HB.out) hb2)
      have HOy := m4
      replace HO0 := m5
      replace HB := m2
      clear m2 m4 hb2 ho4 m5
      refine hK.out _ _ trivial (fun hHeld => ?_)
      clear hK K
      refine norm_ (a' := ?_) ?_ ?_
      rotate_left
      ·show Act.put _ (some 39) _ = _
       simp only [aq_]
       rfl
      refine one_ (i := 4) (N := some 37) q33_1 rfl rfl (by kernel_rfl) (by decide) (fun K hK => ?_)
      refine Kd.R_append_rows_step (Kd.int .i64) (w0 := w) w.heap.size (by rfl) (.tmp 33) (.tmp 36) 23 3 (.int .i64 0) 8 rfl Try.underlying23 info3 rfl (by decide) (by omega) v33 ([] : List Int) (l0.take j) _ _ _ (fun _ => True) (fun _ => False) rfl rfl ?aO ?aR (fun _ _ h => h) (fun _ h => h.elim) ?aF ?aB ?aS ?aL ?_
      case aO => exact HO0.out
      case aR =>
       have hct := Kd.C_take (Kd.C_below HR0.out HB.out) hkl
       rw [List.length_take, Nat.min_eq_left hkl] at hct
       exact hct
      case aF => exact (fun _ _ => trivial)
      case aB => exact bw HB.out
      case aS => exact below_size (bw HB.out)
      case aL => first | omega | (simp only [List.length_take, List.length_cons, List.length_nil]; omega)
      intro v37 w37 ho4 hb2 hg4 hat4
      have m3 := Aside0.mk (Kd.R_after (ok := fun _ => True) (by first | exact HOy.out | exact bR HOy.out) hg4 hat4)
      have m1 := Aside0.mk ho4
      have m2 := Aside0.mk hb2
      replace HOy := m3
      have HO1 := m1
      replace HB := m2
      clear m1 m2 hb2 ho4 hg4 hat4 HO0 m3
      refine hK.out _ _ trivial (fun hHeld => ?_)
      clear hK K
      refine norm_ (a' := ?_) ?_ ?_
      rotate_left
      ·show Act.put _ (some 37) _ = _
       simp only [aq_]
       rfl
      exact norm_ (by simp only [putAll, Act.put, List.setIfInBounds_toArray, List.set_cons_zero, List.set_cons_succ]) (hCont (v33, v37, v39) _ ⟨(by first | exact Kd.R_mono HO1.out (fun _ _ => trivial) | exact Kd.R_mono (bR HO1.out) (fun _ _ => trivial)), (by first | exact Kd.R_mono HOy.out (fun _ _ => trivial) | exact Kd.R_mono (bR HOy.out) (fun _ _ => trivial)), bw HB.out⟩)
    ·skip
     refine Kd.R_lit_step (Kd.int .i64) _ 3 ?hg (N := 39) ?hd (xs := ([a1] : List Int)) (inner := [.int .i64 (a1)]) (ok := fun _ => True) (okp := fun _ => True) ?hr ?hp (fun _ hk => hk) trivial (Below.refl _ _) (Nat.le_refl _) (by simp) ?_
     case hd => rfl
     case hg => rfl
     case hr => first | (go_simp; done) | (go_simp; rfl)
     case hp => exact (Reps.one (show Kd.M (Kd.int .i64) _ _ _ (a1) [.int .i64 (a1)] from rfl) (Reps.none _ _))
     intro v39 w39 ho4 hb2 hg_ hnew_
     clear hg_ hnew_
     have m4 := Aside0.mk (Kd.R_lower ho4 (below_size (bw HB.out)))
     have m2 := Aside0.mk (below_step (bw HB.out) hb2)
     have HOy := m4
     replace HB := m2
     clear m2 m4 hb2 ho4
     refine hK.out _ _ trivial (fun hHeld => ?_)
     clear hK K
     refine norm_ (a' := ?_) ?_ ?_
     rotate_left
     ·show Act.put _ (some 39) _ = _
      simp only [aq_]
      rfl
     refine one_ (i := 0) (N := some 33) q33_5 rfl rfl (by kernel_rfl) (by decide) (fun K hK => ?_)
     refine Kd.R_lit_step (Kd.int .i64) _ 3 ?hg (N := 33) ?hd (xs := ([] : List Int)) (inner := []) (ok := fun _ => True) (okp := fun _ => True) ?hr ?hp (fun _ hk => hk) trivial (Below.refl _ _) (Nat.le_refl _) (by simp) ?_
     case hd => rfl
     case hg => rfl
     case hr => first | (go_simp; done) | (go_simp; rfl)
     case hp => exact (Reps.none _ _)
     intro v33 w33 ho4 hb2 hg_ hnew_
     clear hg_ hnew_
     have m3 := Aside0.mk (Kd.R_elder' (bR HOy.out) (Kd.R_base ho4) hb2)
     have m1 := Aside0.mk (Kd.R_lower ho4 (below_size (bw HB.out)))
     have m2 := Aside0.mk (below_step (bw HB.out) hb2)
     replace HOy := m3
     have HO0 := m1
     replace HB := m2
     clear m1 m2 hb2 ho4 m3
     refine hK.out _ _ trivial (fun hHeld => ?_)
     clear hK K
     refine norm_ (a' := ?_) ?_ ?_
     rotate_left
     ·show Act.put _ (some 33) _ = _
      simp only [aq_]
      rfl
     refine one_ (i := 4) (N := some 37) q33_1 rfl rfl (by kernel_rfl) (by decide) (fun K hK => ?_)
     refine Kd.R_append_rows_step (Kd.int .i64) (w0 := w) w.heap.size (by rfl) (.tmp 33) (.tmp 36) 23 3 (.int .i64 0) 8 rfl Try.underlying23 info3 rfl (by decide) (by omega) v33 ([] : List Int) (l0.take j) _ _ _ (fun _ => True) (fun _ => False) rfl rfl ?aO ?aR (fun _ _ h => h) (fun _ h => h.elim) ?aF ?aB ?aS ?aL ?_
     case aO => exact HO0.out
     case aR =>
      have hct := Kd.C_take (Kd.C_below HR0.out HB.out) hkl
      rw [List.length_take, Nat.min_eq_left hkl] at hct
      exact hct
     case aF => exact (fun _ _ => trivial)
     case aB => exact bw HB.out
     case aS => exact below_size (bw HB.out)
     case aL => first | omega | (simp only [List.length_take, List.length_cons, List.length_nil]; omega)
     intro v37 w37 ho4 hb2 hg4 hat4
     have m3 := Aside0.mk (Kd.R_after (ok := fun _ => True) (by first | exact HOy.out | exact bR HOy.out) hg4 hat4)
     have m1 := Aside0.mk ho4
     have m2 := Aside0.mk hb2
     replace HOy := m3
     have HO1 := m1
     replace HB := m2
     clear m1 m2 hb2 ho4 hg4 hat4 HO0 m3
     refine hK.out _ _ trivial (fun hHeld => ?_)
     clear hK K
     refine norm_ (a' := ?_) ?_ ?_
     rotate_left
     ·show Act.put _ (some 37) _ = _
      simp only [aq_]
      rfl
     exact norm_ (by simp only [putAll, Act.put, List.setIfInBounds_toArray, List.set_cons_zero, List.set_cons_succ]) (hCont (v33, v37, v39) _ ⟨(by first | exact Kd.R_mono HO1.out (fun _ _ => trivial) | exact Kd.R_mono (bR HO1.out) (fun _ _ => trivial)), (by first | exact Kd.R_mono HOy.out (fun _ _ => trivial) | exact Kd.R_mono (bR HOy.out) (fun _ _ => trivial)), bw HB.out⟩)
   clear HB
   rintro ⟨v33, v37, v39⟩ w38 ⟨h35, h37, hB8⟩
   have HB := Aside0.mk hB8
   obtain ⟨A37, c37, e37⟩ := Kd.R_slice h37
   subst e37
   refine norm_ (a' := ?_) (by simp only [putAll, Act.put, List.setIfInBounds_toArray, List.set_cons_zero, List.set_cons_succ]; rfl) ?_
   refine one_ (i := 7) (N := some 40) q33_6 rfl rfl (by kernel_rfl) (by decide) (fun K hK => ?_)
   refine Kd.R_append_rows_step (Kd.int .i64) (w0 := w) w.heap.size (by rfl) (.tmp 37) (.tmp 39) 23 3 (.int .i64 0) 8 rfl Try.underlying23 info3 rfl (by decide) (by omega) v37 (l0.take j) [a1] _ _ _ (fun _ => True) (fun _ => False) rfl rfl ?aO ?aR (fun _ _ h => h) (fun _ h => h.elim) ?aF ?aB ?aS ?aL ?_
   case aO => exact h35
   case aR => exact (Kd.R_reads' h37).2.2
   case aF => exact (fun _ _ => trivial)
   case aB => exact hB8
   case aS => exact below_size hB8
   case aL => first | omega | (simp only [List.length_take, List.length_cons, List.length_nil]; omega)
   intro v40 w39 ho38 hb38 hg38 hat38
   replace HB := Aside0.mk hb38
   clear hg38 hat38 h35 h37 hB8
   refine hK.out _ _ trivial (fun hHeld => ?_)
   clear hK K
   refine norm_ (a' := ?_) ?_ ?_
   rotate_left
   ·show Act.put _ (some 40) _ = _
    simp only [aq_]
    rfl
   refine one_ (i := 11) (N := some 44) q33_7 rfl rfl (by kernel_rfl) (by decide) (fun K hK => ?_)
   refine Kd.R_append_rows_step (Kd.int .i64) (w0 := w) w.heap.size (by rfl) (.tmp 40) (.tmp 43) 23 3 (.int .i64 0) 8 rfl Try.underlying23 info3 rfl (by decide) (by omega) v40 (l0.take j ++ [a1]) (l0.drop j) _ _ _ (fun _ => True) (fun _ => False) rfl rfl ?aO ?aR (fun _ _ h => h) (fun _ h => h.elim) ?aF ?aB ?aS ?aL ?_
   case aO => exact ho38
   case aR =>
    have hcd := Kd.C_drop (Kd.C_below HR0.out hb38) hkl hcL
    rw [List.length_drop] at hcd
    simp only [show (Kd.int .i64).sz = 1 from rfl, Nat.mul_one] at hcd
    exact hcd
   case aF => exact (fun _ _ => trivial)
   case aB => exact hb38
   case aS => exact below_size hb38
   case aL => have := HAP.out; first | omega | (simp only [List.length_append, List.length_take, List.length_cons, List.length_nil, List.length_drop] at this ⊢; omega)
   intro v44 w43 ho42 hb42 hg42 hat42
   replace HB := Aside0.mk hb42
   clear hg42 hat42 ho38 hb38
   refine hK.out _ _ trivial (fun hHeld => ?_)
   clear hK K
   refine norm_ (a' := ?_) ?_ ?_
   rotate_left
   ·show Act.put _ (some 44) _ = _
    simp only [aq_]
    rfl
   refine puq_ (i := 12) (N := some 4) rfl rfl (by kernel_rfl) (fun _ _ _ h => h) (Or.inl ⟨by rfl, by intro w'; go_simp; with_reducible rfl⟩) (by simp only [aq_]; rfl) ?_
   refine done_ (by kernel_rfl) ?_
   have HR := Aside0.mk ho42
   clear ho42 hb42
   go_wp2
   all_goals (go_ret; exact ⟨_, rfl, by rw [← HR1.out]; have := HR.out; simpa using this, HB.out⟩)
  have p2 : 0 ≤ (j : Int) := by omega
  have q2 : (j : Int) < (l0.length : Int) := by omega
  obtain ⟨y, hy⟩ : ∃ y, l0[j]? = some y := ⟨_, List.getElem?_eq_getElem hjl⟩
  have hrs : rs = y :: l0.drop (j + 1) := by
   rw [HRest.out, List.drop_eq_getElem_cons hjl]
   have h4 : l0[j]? = some l0[j] := List.getElem?_eq_getElem hjl
   rw [h4, Option.some.injEq] at hy
   rw [hy]
  obtain ⟨ad, ea, hxc⟩ := Kd.at_int (Kd.C_below HR0.out HB.out) (j : Int) p2 q2
  have hy2 : rd l0 (j : Int) = y := by simp only [rd, Int.toNat_natCast, List.getD_eq_getElem?_getD, hy, Option.getD_some]
  rw [hy2, Int.toNat_natCast] at hxc
  cases ea
  have d1 : decide ((j : Int) < (l0.length : Int)) = true := decide_eq_true q2
  have d1n : decide (j < l0.length) = true := decide_eq_true hjl
  have q2n := eq_true hjl
  have p2b := eq_true p2
  have q2b := eq_true q2
  have hw : wrap64 ((j : Int) + 1) = ((j + 1 : Nat) : Int) := by have := HL.out; unfold wrap64; omega
  have hw2 : IntKind.i64.wrap ((j : Int) + 1) = ((j + 1 : Nat) : Int) := (i64_w _).trans hw
  by_cases hlt : y < a1
  ·have d2 : decide (y < a1) = true := decide_eq_true hlt
   have hltb := eq_true hlt
   have HK2 := Aside0.mk (show (j + 1) + spec_l1Put.posR a1 (l0.drop (j + 1)) = kk from by have h1 := HK.out; rw [hrs, spec_l1Put.posR, if_pos hlt] at h1; omega)
   have HJ2 := Aside0.mk (show (j + 1) + (gk - 1) = l0.length ∧ gk - 1 < gk from by omega)
   clear hj hjl hrs hy hy2 hlt p2 q2
   go_wp2
   go_roundg (gk - 1)
   case measure => exact HJ2.out.2
   case rel => exact ⟨j + 1, l0.drop (j + 1), (by simp), ⟨HJ2.out.1⟩, ⟨rfl⟩, HK2, HB⟩
  have d2 : decide (y < a1) = false := decide_eq_false hlt
  have hltb := eq_false hlt
  have hne : y ≠ a1 := by
   rintro rfl
   exact HNI.out (List.mem_of_getElem? hy)
  have d3 : decide (y = a1) = false := decide_eq_false hne
  have d4 : (y == a1) = false := by simpa using hne
  have hneb := eq_false hne
  have HJK : Aside0 (j = kk ∧ kk ≤ l0.length) := ⟨by have h1 := HK.out; rw [hrs, spec_l1Put.posR, if_neg hlt] at h1; have := HKL.out; omega⟩
  have hX := Aside0.mk hxc
  clear hj hjl hrs hy hy2 hlt hne p2 q2 HK HRest
  go_wp2
  obtain ⟨hjk, hkl⟩ := HJK.out
  subst hjk
  have HAP := Aside0.mk (show (l0.take j ++ [a1]).length + (l0.length - j) ≤ 1000001 from by have := HL.out; simp only [List.length_append, List.length_take, List.length_cons, List.length_nil]; omega)
  have hcL := HC0.out
  have hoM : l0.length ≤ 1000000 := HL.out
  have s1 := eq_true (show 0 ≤ (j : Int) by omega)
  have s2 := eq_true (show (j : Int) ≤ (l0.length : Int) by omega)
  have s3 := eq_true (show (j : Int) ≤ (c0 : Int) by omega)
  have s4 := eq_true (show j ≤ c0 by omega)
  have s5 := eq_true (show j ≤ l0.length by omega)
  have s6 := eq_true (show l0.length ≤ c0 by omega)
  have s7 := eq_true (show (l0.length : Int) ≤ (c0 : Int) by omega)
  have n1 := Aside0.mk (below_drew1 HB.out)
  replace HB := n1
  clear n1
  refine start_ (n := 13) (S := fun _ => True) (ds := []) q33_0 (by kernel_rfl) rfl rfl trivial (fun hHeld => ?_)
  generalize wr.drew = w25 at HB hHeld ⊢
  refine puq_ (i := 1) (N := some 34) rfl rfl (by kernel_rfl) (fun _ _ _ h => h) (Or.inl ⟨by rfl, by intro w'; go_simp; with_reducible rfl⟩) (by simp only [aq_]; rfl) ?_
  refine puq_ (i := 2) (N := some 35) rfl rfl (by kernel_rfl) (fun _ _ _ h => h) (Or.inl ⟨by rfl, by intro w'; go_simp; with_reducible rfl⟩) (by simp only [aq_]; rfl) ?_
  refine puq_ (i := 3) (N := some 36) rfl rfl (by kernel_rfl) (fun _ _ _ h => h) (Or.inl ⟨by rfl, by intro w'; go_simp; with_reducible rfl⟩) (by simp only [aq_]; rfl) ?_
  refine puq_ (i := 5) (N := some 38) rfl rfl (by kernel_rfl) (fun _ _ _ h => h) (Or.inl ⟨by rfl, by intro w'; go_simp; with_reducible rfl⟩) (by simp only [aq_]; rfl) ?_
  refine puq_ (i := 8) (N := some 41) rfl rfl (by kernel_rfl) (fun _ _ _ h => h) (Or.inl ⟨by rfl, by intro w'; go_simp; with_reducible rfl⟩) (by simp only [aq_]; rfl) ?_
  refine puq_ (i := 9) (N := some 42) rfl rfl (by kernel_rfl) (fun _ _ _ h => h) (Or.inl ⟨by rfl, by intro w'; go_simp; with_reducible rfl⟩) (by simp only [aq_]; rfl) ?_
  refine puq_ (i := 10) (N := some 43) rfl rfl (by kernel_rfl) (fun _ _ _ h => h) (Or.inl ⟨by rfl, by intro w'; go_simp; with_reducible rfl⟩) (by simp only [aq_]; rfl) ?_
  refine join_ (σ := Value × Value × Value) 3 q33_1 (fun s_ => [(33, s_.1), (37, s_.2.1), (39, s_.2.2)]) (fun s_ w' => Kd.R (Kd.int .i64) 3 w' w.heap.size (fun _ => True) s_.2.1 (l0.take j) ∧ Kd.R (Kd.int .i64) 3 w' w.heap.size (fun _ => True) s_.2.2 ([a1]) ∧ Below w.heap.size w w') ?_ ?_
  rotate_left
  ·intro hCont
   refine two_ (i := 0) (j := 6) (Ni := some 33) (Nj := some 39) q33_2 q33_3 rfl rfl rfl rfl (by kernel_rfl) (by decide) (by decide) (fun K hK => ?_) (fun K hK => ?_)
   ·skip
    refine Kd.R_lit_step (Kd.int .i64) _ 3 ?hg (N := 33) ?hd (xs := ([] : List Int)) (inner := []) (ok := fun _ => True) (okp := fun _ => True) ?hr ?hp (fun _ hk => hk) trivial (Below.refl _ _) (Nat.le_refl _) (by simp) ?_
    case hd => rfl
    case hg => rfl
    case hr => first | (go_simp; done) | (go_simp; rfl)
    case hp => exact (Reps.none _ _)
    intro v33 w33 ho4 hb2 hg_ hnew_
    clear hg_ hnew_
    have m1 := Aside0.mk (Kd.R_lower ho4 (below_size (bw HB.out)))
    have m2 := Aside0.mk (below_step (bw HB.out) hb2)
    have HO0 := m1
    replace HB := m2
    clear m1 m2 hb2 ho4
    refine hK.out _ _ trivial (fun hHeld => ?_)
    clear hK K
    refine norm_ (a' := ?_) ?_ ?_
    rotate_left
    ·show Act.put _ (some 33) _ = _
     simp only [aq_]
     rfl
    refine two_ (i := 4) (j := 6) (Ni := some 37) (Nj := some 39) q33_4 q33_5 rfl rfl rfl rfl (by kernel_rfl) (by decide) (by decide) (fun K hK => ?_) (fun K hK => ?_)
    ·skip
     refine Kd.R_append_rows_step (Kd.int .i64) (w0 := w) w.heap.size (by rfl) (.tmp 33) (.tmp 36) 23 3 (.int .i64 0) 8 rfl Try.underlying23 info3 rfl (by decide) (by omega) v33 ([] : List Int) (l0.take j) _ _ _ (fun _ => True) (fun _ => False) rfl rfl ?aO ?aR (fun _ _ h => h) (fun _ h => h.elim) ?aF ?aB ?aS ?aL ?_
     case aO => exact HO0.out
     case aR =>
      have hct := Kd.C_take (Kd.C_below HR0.out HB.out) hkl
      rw [List.length_take, Nat.min_eq_left hkl] at hct
      exact hct
     case aF => exact (fun _ _ => trivial)
     case aB => exact bw HB.out
     case aS => exact below_size (bw HB.out)
     case aL => first | omega | (simp only [List.length_take, List.length_cons, List.length_nil]; omega)
     intro v37 w37 ho4 hb2 hg4 hat4
     have m1 := Aside0.mk ho4
     have m2 := Aside0.mk hb2
     have HO1 := m1
     replace HB := m2
     clear m1 m2 hb2 ho4 hg4 hat4 HO0
     refine hK.out _ _ trivial (fun hHeld => ?_)
     clear hK K
     refine norm_ (a' := ?_) ?_ ?_
     rotate_left
     ·show Act.put _ (some 37) _ = _
      simp only [aq_]
      rfl
     refine one_ (i := 6) (N := some 39) q33_1 rfl rfl (by kernel_rfl) (by decide) (fun K hK => ?_)
     refine Kd.R_lit_step (Kd.int .i64) _ 3 ?hg (N := 39) ?hd (xs := ([a1] : List Int)) (inner := [.int .i64 (a1)]) (ok := fun _ => True) (okp := fun _ => True) ?hr ?hp (fun _ hk => hk) trivial (Below.refl _ _) (Nat.le_refl _) (by simp) ?_
     case hd => rfl
     case hg => rfl
     case hr => first | (go_simp; done) | (go_simp; rfl)
     case hp => exact (Reps.one (show Kd.M (Kd.int .i64) _ _ _ (a1) [.int .i64 (a1)] from rfl) (Reps.none _ _))
     intro v39 w39 ho4 hb2 hg_ hnew_
     clear hg_ hnew_
     have m4 := Aside0.mk (Kd.R_lower ho4 (below_size (bw HB.out)))
     have m5 := Aside0.mk (Kd.R_below (bR HO1.out) hb2)
     have m2 := Aside0.mk (below_step (bw HB.out) hb2)
     have HOy := m4
     replace HO1 := m5
     replace HB := m2
     clear m2 m4 hb2 ho4 m5
     refine hK.out _ _ trivial (fun hHeld => ?_)
     clear hK K
     refine norm_ (a' := ?_) ?_ ?_
     rotate_left
     ·show Act.put _ (some 39) _ = _
      simp only [aq_]
      rfl
     exact norm_ (by simp only [putAll, Act.put, List.setIfInBounds_toArray, List.set_cons_zero, List.set_cons_succ]) (hCont (v33, v37, v39) _ ⟨(by first | exact Kd.R_mono HO1.out (fun _ _ => trivial) | exact Kd.R_mono (bR HO1.out) (fun _ _ => trivial)), (by first | exact Kd.R_mono HOy.out (fun _ _ => trivial) | exact Kd.R_mono (bR HOy.out) (fun _ _ => trivial)), bw HB.out⟩)
    ·skip
     refine Kd.R_lit_step (Kd.int .i64) _ 3 ?hg (N := 39) ?hd (xs := ([a1] : List Int)) (inner := [.int .i64 (a1)]) (ok := fun _ => True) (okp := fun _ => True) ?hr ?hp (fun _ hk => hk) trivial (Below.refl _ _) (Nat.le_refl _) (by simp) ?_
     case hd => rfl
     case hg => rfl
     case hr => first | (go_simp; done) | (go_simp; rfl)
     case hp => exact (Reps.one (show Kd.M (Kd.int .i64) _ _ _ (a1) [.int .i64 (a1)] from rfl) (Reps.none _ _))
     intro v39 w39 ho4 hb2 hg_ hnew_
     clear hg_ hnew_
     have m3 := Aside0.mk (Kd.R_new' ho4 (Kd.R_lt (bR HO0.out)))
     have m4 := Aside0.mk (Kd.R_lower m3.out (below_size (bw HB.out)))
     have m5 := Aside0.mk (Kd.R_below (bR HO0.out) hb2)
     clear m3
     have m2 := Aside0.mk (below_step (bw HB.out) hb2)
     have HOy := m4
     replace HO0 := m5
     replace HB := m2
     clear m2 m4 hb2 ho4 m5
     refine hK.out _ _ trivial (fun hHeld => ?_)
     clear hK K
     refine norm_ (a' := ?_) ?_ ?_
     rotate_left
     ·show Act.put _ (some 39) _ = _
      simp only [aq_]
      rfl
     refine one_ (i := 4) (N := some 37) q33_1 rfl rfl (by kernel_rfl) (by decide) (fun K hK => ?_)
     refine Kd.R_append_rows_step (Kd.int .i64) (w0 := w) w.heap.size (by rfl) (.tmp 33) (.tmp 36) 23 3 (.int .i64 0) 8 rfl Try.underlying23 info3 rfl (by decide) (by omega) v33 ([] : List Int) (l0.take j) _ _ _ (fun _ => True) (fun _ => False) rfl rfl ?aO ?aR (fun _ _ h => h) (fun _ h => h.elim) ?aF ?aB ?aS ?aL ?_
     case aO => exact HO0.out
     case aR =>
      have hct := Kd.C_take (Kd.C_below HR0.out HB.out) hkl
      rw [List.length_take, Nat.min_eq_left hkl] at hct
      exact hct
     case aF => exact (fun _ _ => trivial)
     case aB => exact bw HB.out
     case aS => exact below_size (bw HB.out)
     case aL => first | omega | (simp only [List.length_take, List.length_cons, List.length_nil]; omega)
     intro v37 w37 ho4 hb2 hg4 hat4
     have m3 := Aside0.mk (Kd.R_after (ok := fun _ => True) (by first | exact HOy.out | exact bR HOy.out) hg4 hat4)
     have m1 := Aside0.mk ho4
     have m2 := Aside0.mk hb2
     replace HOy := m3
     have HO1 := m1
     replace HB := m2
     clear m1 m2 hb2 ho4 hg4 hat4 HO0 m3
     refine hK.out _ _ trivial (fun hHeld => ?_)
     clear hK K
     refine norm_ (a' := ?_) ?_ ?_
     rotate_left
     ·show Act.put _ (some 37) _ = _
      simp only [aq_]
      rfl
     exact norm_ (by simp only [putAll, Act.put, List.setIfInBounds_toArray, List.set_cons_zero, List.set_cons_succ]) (hCont (v33, v37, v39) _ ⟨(by first | exact Kd.R_mono HO1.out (fun _ _ => trivial) | exact Kd.R_mono (bR HO1.out) (fun _ _ => trivial)), (by first | exact Kd.R_mono HOy.out (fun _ _ => trivial) | exact Kd.R_mono (bR HOy.out) (fun _ _ => trivial)), bw HB.out⟩)
   ·skip
    refine Kd.R_lit_step (Kd.int .i64) _ 3 ?hg (N := 39) ?hd (xs := ([a1] : List Int)) (inner := [.int .i64 (a1)]) (ok := fun _ => True) (okp := fun _ => True) ?hr ?hp (fun _ hk => hk) trivial (Below.refl _ _) (Nat.le_refl _) (by simp) ?_
    case hd => rfl
    case hg => rfl
    case hr => first | (go_simp; done) | (go_simp; rfl)
    case hp => exact (Reps.one (show Kd.M (Kd.int .i64) _ _ _ (a1) [.int .i64 (a1)] from rfl) (Reps.none _ _))
    intro v39 w39 ho4 hb2 hg_ hnew_
    clear hg_ hnew_
    have m4 := Aside0.mk (Kd.R_lower ho4 (below_size (bw HB.out)))
    have m2 := Aside0.mk (below_step (bw HB.out) hb2)
    have HOy := m4
    replace HB := m2
    clear m2 m4 hb2 ho4
    refine hK.out _ _ trivial (fun hHeld => ?_)
    clear hK K
    refine norm_ (a' := ?_) ?_ ?_
    rotate_left
    ·show Act.put _ (some 39) _ = _
     simp only [aq_]
     rfl
    refine one_ (i := 0) (N := some 33) q33_5 rfl rfl (by kernel_rfl) (by decide) (fun K hK => ?_)
    refine Kd.R_lit_step (Kd.int .i64) _ 3 ?hg (N := 33) ?hd (xs := ([] : List Int)) (inner := []) (ok := fun _ => True) (okp := fun _ => True) ?hr ?hp (fun _ hk => hk) trivial (Below.refl _ _) (Nat.le_refl _) (by simp) ?_
    case hd => rfl
    case hg => rfl
    case hr => first | (go_simp; done) | (go_simp; rfl)
    case hp => exact (Reps.none _ _)
    intro v33 w33 ho4 hb2 hg_ hnew_
    clear hg_ hnew_
    have m3 := Aside0.mk (Kd.R_elder' (bR HOy.out) (Kd.R_base ho4) hb2)
    have m1 := Aside0.mk (Kd.R_lower ho4 (below_size (bw HB.out)))
    have m2 := Aside0.mk (below_step (bw HB.out) hb2)
    replace HOy := m3
    have HO0 := m1
    replace HB := m2
    clear m1 m2 hb2 ho4 m3
    refine hK.out _ _ trivial (fun hHeld => ?_)
    clear hK K
    refine norm_ (a' := ?_) ?_ ?_
    rotate_left
    ·show Act.put _ (some 33) _ = _
     simp only [aq_]
     rfl
    refine one_ (i := 4) (N := some 37) q33_1 rfl rfl (by kernel_rfl) (by decide) (fun K hK => ?_)
    refine Kd.R_append_rows_step (Kd.int .i64) (w0 := w) w.heap.size (by rfl) (.tmp 33) (.tmp 36) 23 3 (.int .i64 0) 8 rfl Try.underlying23 info3 rfl (by decide) (by omega) v33 ([] : List Int) (l0.take j) _ _ _ (fun _ => True) (fun _ => False) rfl rfl ?aO ?aR (fun _ _ h => h) (fun _ h => h.elim) ?aF ?aB ?aS ?aL ?_
    case aO => exact HO0.out
    case aR =>
     have hct := Kd.C_take (Kd.C_below HR0.out HB.out) hkl
     rw [List.length_take, Nat.min_eq_left hkl] at hct
     exact hct
    case aF => exact (fun _ _ => trivial)
    case aB => exact bw HB.out
    case aS => exact below_size (bw HB.out)
    case aL => first | omega | (simp only [List.length_take, List.length_cons, List.length_nil]; omega)
    intro v37 w37 ho4 hb2 hg4 hat4
    have m3 := Aside0.mk (Kd.R_after (ok := fun _ => True) (by first | exact HOy.out | exact bR HOy.out) hg4 hat4)
    have m1 := Aside0.mk ho4
    have m2 := Aside0.mk hb2
    replace HOy := m3
    have HO1 := m1
    replace HB := m2
    clear m1 m2 hb2 ho4 hg4 hat4 HO0 m3
    refine hK.out _ _ trivial (fun hHeld => ?_)
    clear hK K
    refine norm_ (a' := ?_) ?_ ?_
    rotate_left
    ·show Act.put _ (some 37) _ = _
     simp only [aq_]
     rfl
    exact norm_ (by simp only [putAll, Act.put, List.setIfInBounds_toArray, List.set_cons_zero, List.set_cons_succ]) (hCont (v33, v37, v39) _ ⟨(by first | exact Kd.R_mono HO1.out (fun _ _ => trivial) | exact Kd.R_mono (bR HO1.out) (fun _ _ => trivial)), (by first | exact Kd.R_mono HOy.out (fun _ _ => trivial) | exact Kd.R_mono (bR HOy.out) (fun _ _ => trivial)), bw HB.out⟩)
  clear HB
  rintro ⟨v33, v37, v39⟩ w38 ⟨h35, h37, hB8⟩
  have HB := Aside0.mk hB8
  obtain ⟨A37, c37, e37⟩ := Kd.R_slice h37
  subst e37
  refine norm_ (a' := ?_) (by simp only [putAll, Act.put, List.setIfInBounds_toArray, List.set_cons_zero, List.set_cons_succ]; rfl) ?_
  refine one_ (i := 7) (N := some 40) q33_6 rfl rfl (by kernel_rfl) (by decide) (fun K hK => ?_)
  refine Kd.R_append_rows_step (Kd.int .i64) (w0 := w) w.heap.size (by rfl) (.tmp 37) (.tmp 39) 23 3 (.int .i64 0) 8 rfl Try.underlying23 info3 rfl (by decide) (by omega) v37 (l0.take j) [a1] _ _ _ (fun _ => True) (fun _ => False) rfl rfl ?aO ?aR (fun _ _ h => h) (fun _ h => h.elim) ?aF ?aB ?aS ?aL ?_
  case aO => exact h35
  case aR => exact (Kd.R_reads' h37).2.2
  case aF => exact (fun _ _ => trivial)
  case aB => exact hB8
  case aS => exact below_size hB8
  case aL => first | omega | (simp only [List.length_take, List.length_cons, List.length_nil]; omega)
  intro v40 w39 ho38 hb38 hg38 hat38
  replace HB := Aside0.mk hb38
  clear hg38 hat38 h35 h37 hB8
  refine hK.out _ _ trivial (fun hHeld => ?_)
  clear hK K
  refine norm_ (a' := ?_) ?_ ?_
  rotate_left
  ·show Act.put _ (some 40) _ = _
   simp only [aq_]
   rfl
  refine one_ (i := 11) (N := some 44) q33_7 rfl rfl (by kernel_rfl) (by decide) (fun K hK => ?_)
  refine Kd.R_append_rows_step (Kd.int .i64) (w0 := w) w.heap.size (by rfl) (.tmp 40) (.tmp 43) 23 3 (.int .i64 0) 8 rfl Try.underlying23 info3 rfl (by decide) (by omega) v40 (l0.take j ++ [a1]) (l0.drop j) _ _ _ (fun _ => True) (fun _ => False) rfl rfl ?aO ?aR (fun _ _ h => h) (fun _ h => h.elim) ?aF ?aB ?aS ?aL ?_
  case aO => exact ho38
  case aR =>
   have hcd := Kd.C_drop (Kd.C_below HR0.out hb38) hkl hcL
   rw [List.length_drop] at hcd
   simp only [show (Kd.int .i64).sz = 1 from rfl, Nat.mul_one] at hcd
   exact hcd
  case aF => exact (fun _ _ => trivial)
  case aB => exact hb38
  case aS => exact below_size hb38
  case aL => have := HAP.out; first | omega | (simp only [List.length_append, List.length_take, List.length_cons, List.length_nil, List.length_drop] at this ⊢; omega)
  intro v44 w43 ho42 hb42 hg42 hat42
  replace HB := Aside0.mk hb42
  clear hg42 hat42 ho38 hb38
  refine hK.out _ _ trivial (fun hHeld => ?_)
  clear hK K
  refine norm_ (a' := ?_) ?_ ?_
  rotate_left
  ·show Act.put _ (some 44) _ = _
   simp only [aq_]
   rfl
  refine puq_ (i := 12) (N := some 4) rfl rfl (by kernel_rfl) (fun _ _ _ h => h) (Or.inl ⟨by rfl, by intro w'; go_simp; with_reducible rfl⟩) (by simp only [aq_]; rfl) ?_
  refine done_ (by kernel_rfl) ?_
  have HR := Aside0.mk ho42
  clear ho42 hb42
  go_wp2
  all_goals (go_ret; exact ⟨_, rfl, by rw [← HR1.out]; have := HR.out; simpa using this, HB.out⟩)

/-! ### spec_UnitCircuit: function 15 -/
mutual
def spec_UnitCircuit.j0 : Nat → List (S43) → List Int → Int → Bool → Option (List Int × Bool)
 | 0, _, _, _, _ => none
 | k + 1, x0, x1, x2, x33 => if x33 = true then (some ((([] : List Int)), false)) else (spec_UnitCircuit.l0 k x0 x1 x2 (([x2] : List Int)) 0)
def spec_UnitCircuit.l0 : Nat → List (S43) → List Int → Int → List Int → Int → Option (List Int × Bool)
 | 0, _, _, _, _, _ => none
 | k + 1, x0, x1, x2, x8, x9 => if x9 < (x1.length : Int) then (if 0 ≤ x9 then (if x9 ≤ (wrap64 (x9 + 1)) then (if (wrap64 (x9 + 1)) ≤ (x1.length : Int) then ((spec_l4Rest.f k x1 ((x1.take ((wrap64 (x9 + 1)) : Int).toNat).drop (x9 : Int).toNat)).bind fun t304 => ((spec_l1Put.f t304 x2).bind fun t307 => ((spec_l6Timely.f k x0 t307).bind fun t310 => (if t310 = true then ((spec_l1Put.f x8 (rd x1 x9)).bind fun t312 => (spec_UnitCircuit.l0 k x0 x1 x2 t312 (wrap64 (x9 + 1)))) else (spec_UnitCircuit.l0 k x0 x1 x2 x8 (wrap64 (x9 + 1))))))) else (none)) else (none)) else (none)) else (some (x8, true))
end
def spec_UnitCircuit.f (k : Nat) (l0 : List (S43)) (l1 : List Int) (a2 : Int) : Option (List Int × Bool) := (spec_l10Free.f k l0 l1).bind fun t290 => (if t290 = true then ((spec_l1In.f a2 0 (wrap64 ((l0.length : Int) - 1))).bind fun t291 => (if t291 = true then ((spec_l1Has.f k l1 a2).bind fun t292 => (if t292 = true then (spec_UnitCircuit.j0 k l0 l1 a2 true) else ((spec_l1Put.f l1 a2).bind fun t293 => ((spec_l6Timely.f k l0 t293).bind fun t296 => (spec_UnitCircuit.j0 k l0 l1 a2 t296))))) else (spec_UnitCircuit.j0 k l0 l1 a2 true))) else (spec_UnitCircuit.j0 k l0 l1 a2 true))
theorem spec_UnitCircuit.mono_l : ∀ k, (∀ y0 y1 y2 y3, LeO (spec_UnitCircuit.j0 k y0 y1 y2 y3) (spec_UnitCircuit.j0 (k + 1) y0 y1 y2 y3)) ∧ (∀ y0 y1 y2 y3 y4, LeO (spec_UnitCircuit.l0 k y0 y1 y2 y3 y4) (spec_UnitCircuit.l0 (k + 1) y0 y1 y2 y3 y4))
 | 0 => ⟨fun _ _ _ _ r h => by simp [spec_UnitCircuit.j0] at h, fun _ _ _ _ _ r h => by simp [spec_UnitCircuit.l0] at h⟩
 | k + 1 => by
  obtain ⟨ih0, ih1⟩ := spec_UnitCircuit.mono_l k
  refine ⟨?_, ?_⟩
  ·intro y0 y1 y2 y3
   unfold spec_UnitCircuit.j0
   repeat' first
   | (with_reducible exact ih0 _ _ _ _)
   | (with_reducible exact ih1 _ _ _ _ _)
   | (with_reducible exact spec_l10Free.mono _ _ _)
   | (with_reducible exact spec_l1Has.mono _ _ _)
   | (with_reducible exact spec_l4Rest.mono _ _ _)
   | (with_reducible exact spec_l6Timely.mono _ _ _)
   | (with_reducible exact LeO.refl _)
   | (with_reducible exact LeO.none _)
   | (with_reducible refine LeO.ite ?_ ?_)
   | (with_reducible refine LeO.bind ?_ (fun _ => ?_))
   | exact ih0 _ _ _ _
   | exact ih1 _ _ _ _ _
   | exact spec_l10Free.mono _ _ _
   | exact spec_l1Has.mono _ _ _
   | exact spec_l4Rest.mono _ _ _
   | exact spec_l6Timely.mono _ _ _
   | exact LeO.none _
   | refine LeO.ite ?_ ?_
   | refine LeO.bind ?_ (fun _ => ?_)
  ·intro y0 y1 y2 y3 y4
   unfold spec_UnitCircuit.l0
   repeat' first
   | (with_reducible exact ih0 _ _ _ _)
   | (with_reducible exact ih1 _ _ _ _ _)
   | (with_reducible exact spec_l10Free.mono _ _ _)
   | (with_reducible exact spec_l1Has.mono _ _ _)
   | (with_reducible exact spec_l4Rest.mono _ _ _)
   | (with_reducible exact spec_l6Timely.mono _ _ _)
   | (with_reducible exact LeO.refl _)
   | (with_reducible exact LeO.none _)
   | (with_reducible refine LeO.ite ?_ ?_)
   | (with_reducible refine LeO.bind ?_ (fun _ => ?_))
   | exact ih0 _ _ _ _
   | exact ih1 _ _ _ _ _
   | exact spec_l10Free.mono _ _ _
   | exact spec_l1Has.mono _ _ _
   | exact spec_l4Rest.mono _ _ _
   | exact spec_l6Timely.mono _ _ _
   | exact LeO.none _
   | refine LeO.ite ?_ ?_
   | refine LeO.bind ?_ (fun _ => ?_)
theorem spec_UnitCircuit.mono : ∀ a0 a1 a2 k, LeO (spec_UnitCircuit.f k a0 a1 a2) (spec_UnitCircuit.f (k + 1) a0 a1 a2) := by
 intro a0 a1 a2 k
 obtain ⟨ih0, ih1⟩ := spec_UnitCircuit.mono_l k
 unfold spec_UnitCircuit.f
 repeat' first
   | (with_reducible exact ih0 _ _ _ _)
   | (with_reducible exact ih1 _ _ _ _ _)
   | (with_reducible exact spec_l10Free.mono _ _ _)
   | (with_reducible exact spec_l1Has.mono _ _ _)
   | (with_reducible exact spec_l4Rest.mono _ _ _)
   | (with_reducible exact spec_l6Timely.mono _ _ _)
   | (with_reducible exact LeO.refl _)
   | (with_reducible exact LeO.none _)
   | (with_reducible refine LeO.ite ?_ ?_)
   | (with_reducible refine LeO.bind ?_ (fun _ => ?_))
   | exact ih0 _ _ _ _
   | exact ih1 _ _ _ _ _
   | exact spec_l10Free.mono _ _ _
   | exact spec_l1Has.mono _ _ _
   | exact spec_l4Rest.mono _ _ _
   | exact spec_l6Timely.mono _ _ _
   | exact LeO.none _
   | refine LeO.ite ?_ ?_
   | refine LeO.bind ?_ (fun _ => ?_)
set_option maxHeartbeats 8000000 in
set_option maxRecDepth 100000 in
theorem spec_UnitCircuit.calls (k : Nat) (A0 : Option Addr) (c0 : Nat) (l0 : List (S43)) (A1 : Option Addr) (c1 : Nat) (l1 : List Int) (a2 : Int) (r1 : List Int) (r2 : Bool) (w : World) (hr0 : Kd.C k43 w A0 l0.length l0) (hc0 : l0.length ≤ c0) (hr1 : Kd.C (Kd.int .i64) w A1 l1.length l1) (hc1 : l1.length ≤ c1) (h : spec_UnitCircuit.f k l0 l1 a2 = some (r1, r2)) :
  Calls Try.prog 15 #[.slice A0 l0.length c0, .slice A1 l1.length c1, .int .i64 a2] w fun e w' => ∃ v0_ : Value, e = .returned (.tuple #[v0_, .bool r2]) ∧ Kd.R (Kd.int .i64) 3 w' w.heap.size (fun _ => True) v0_ r1 ∧ Below w.heap.size w w' := by
 have HR0 := Aside0.mk hr0
 have HC0 := Aside0.mk hc0
 clear hr0 hc0
 have HR1 := Aside0.mk hr1
 have HC1 := Aside0.mk hc1
 clear hr1 hc1
 have HB := Aside0.mk (Below.refl w.heap.size w)
 have H : ((spec_l10Free.f k l0 l1).bind fun t290 => (if t290 = true then ((spec_l1In.f a2 0 (wrap64 ((l0.length : Int) - 1))).bind fun t291 => (if t291 = true then ((spec_l1Has.f k l1 a2).bind fun t292 => (if t292 = true then (spec_UnitCircuit.j0 k l0 l1 a2 true) else ((spec_l1Put.f l1 a2).bind fun t293 => ((spec_l6Timely.f k l0 t293).bind fun t296 => (spec_UnitCircuit.j0 k l0 l1 a2 t296))))) else (spec_UnitCircuit.j0 k l0 l1 a2 true))) else (spec_UnitCircuit.j0 k l0 l1 a2 true))) = some (r1, r2) := h
 clear h
 have HC4 := Aside0.mk H
 clear H
 go_enter Try.func15, Try.ntmps15
 go_upto_region 1 with (fail)
 go_cut [33] (fun v33 wc => ∃ (kq : Nat) (x33_3 : Bool), v33 = .bool x33_3 ∧ Aside0 (spec_UnitCircuit.j0 kq l0 l1 a2 x33_3 = some (r1, r2)) ∧ Aside0 (kq ≤ k) ∧ Aside0 (Below w.heap.size w wc))
 case first =>
  have H := HC4.out
  clear HC4
  replace H := Option.bind_eq_some_iff.mp H
  obtain ⟨t290, A50, H⟩ := H
  replace H : (if t290 = true then ((spec_l1In.f a2 0 (wrap64 ((l0.length : Int) - 1))).bind fun t291 => (if t291 = true then ((spec_l1Has.f k l1 a2).bind fun t292 => (if t292 = true then (spec_UnitCircuit.j0 k l0 l1 a2 true) else ((spec_l1Put.f l1 a2).bind fun t293 => ((spec_l6Timely.f k l0 t293).bind fun t296 => (spec_UnitCircuit.j0 k l0 l1 a2 t296))))) else (spec_UnitCircuit.j0 k l0 l1 a2 true))) else (spec_UnitCircuit.j0 k l0 l1 a2 true)) = some (r1, r2) := H
  have A5 := Aside0.mk A50
  clear A50
  by_cases c6 : t290 = true
  rotate_left
  ·replace c6 := Bool.eq_false_iff.mpr c6
   subst c6
   have H1 : (spec_UnitCircuit.j0 k l0 l1 a2 true) = some (r1, r2) := by rw [if_neg (show ¬ (false = true) by decide)] at H; exact H
   clear H
   have H := H1
   clear H1
   have H' := Aside0.mk H
   clear H
   go_wp2_with (first | ((with_reducible refine gate_callee (f := 30) rfl ?_); refine goesL_ (some 12) rfl rfl Try.func30 (by kernel_rfl) rfl #[.slice A0 l0.length c0, .slice A1 l1.length c1] rfl (by (try simp only [mA_]); first | done | rfl | (simp only [List.length_drop, List.length_take]; rfl)) ?_; (with_reducible refine (spec_l10Free.calls k _ _ l0 _ _ l1 false _ ?side1 ?side2 ?side3 ?side4 A5.out).mono ?_); (case side1 => first | exact bC HR0.out HB.out | exact Kd.C_below HR0.out HB.out); (case side2 => exact HC0.out); (case side3 => first | exact bC HR1.out HB.out | exact Kd.C_below HR1.out HB.out); (case side4 => exact HC1.out); rintro e w19 ⟨rfl, hb⟩; refine ⟨_, rfl, ?_⟩; have n0_ := Aside0.mk (below_step (bw HB.out) hb); replace HB := n0_; clear n0_; (try clear hb); (try clear hb2); (try clear hk); (try clear hi)))
   go_meet
   case rel => exact ⟨_, (true), (by first | rfl | (simp; done) | (simp [*]; done)), H', ⟨by first | omega | exact Nat.le_refl _⟩, ⟨bw HB.out⟩⟩
  subst c6
  have H1 : ((spec_l1In.f a2 0 (wrap64 ((l0.length : Int) - 1))).bind fun t291 => (if t291 = true then ((spec_l1Has.f k l1 a2).bind fun t292 => (if t292 = true then (spec_UnitCircuit.j0 k l0 l1 a2 true) else ((spec_l1Put.f l1 a2).bind fun t293 => ((spec_l6Timely.f k l0 t293).bind fun t296 => (spec_UnitCircuit.j0 k l0 l1 a2 t296))))) else (spec_UnitCircuit.j0 k l0 l1 a2 true))) = some (r1, r2) := by rw [if_pos rfl] at H; exact H
  clear H
  have H := H1
  clear H1
  replace H := Option.bind_eq_some_iff.mp H
  obtain ⟨t291, A70, H⟩ := H
  replace H : (if t291 = true then ((spec_l1Has.f k l1 a2).bind fun t292 => (if t292 = true then (spec_UnitCircuit.j0 k l0 l1 a2 true) else ((spec_l1Put.f l1 a2).bind fun t293 => ((spec_l6Timely.f k l0 t293).bind fun t296 => (spec_UnitCircuit.j0 k l0 l1 a2 t296))))) else (spec_UnitCircuit.j0 k l0 l1 a2 true)) = some (r1, r2) := H
  have A7 := Aside0.mk A70
  clear A70
  by_cases c8 : t291 = true
  rotate_left
  ·replace c8 := Bool.eq_false_iff.mpr c8
   subst c8
   have H1 : (spec_UnitCircuit.j0 k l0 l1 a2 true) = some (r1, r2) := by rw [if_neg (show ¬ (false = true) by decide)] at H; exact H
   clear H
   have H := H1
   clear H1
   have H' := Aside0.mk H
   clear H
   go_wp2_with (first | ((with_reducible refine gate_callee (f := 30) rfl ?_); refine goesL_ (some 12) rfl rfl Try.func30 (by kernel_rfl) rfl #[.slice A0 l0.length c0, .slice A1 l1.length c1] rfl (by (try simp only [mA_]); first | done | rfl | (simp only [List.length_drop, List.length_take]; rfl)) ?_; (with_reducible refine (spec_l10Free.calls k _ _ l0 _ _ l1 true _ ?side1 ?side2 ?side3 ?side4 A5.out).mono ?_); (case side1 => first | exact bC HR0.out HB.out | exact Kd.C_below HR0.out HB.out); (case side2 => exact HC0.out); (case side3 => first | exact bC HR1.out HB.out | exact Kd.C_below HR1.out HB.out); (case side4 => exact HC1.out); rintro e w18 ⟨rfl, hb⟩; refine ⟨_, rfl, ?_⟩; have n0_ := Aside0.mk (below_step (bw HB.out) hb); replace HB := n0_; clear n0_; (try clear hb); (try clear hb2); (try clear hk); (try clear hi)) | (go_at_call 31; (with_reducible refine (spec_l1In.calls a2 0 (wrap64 ((l0.length : Int) - 1)) false _ A7.out).mono ?_); rintro e w' ⟨rfl, ⟨nd, rfl⟩⟩))
   go_meet
   case rel => exact ⟨_, (true), (by first | rfl | (simp; done) | (simp [*]; done)), H', ⟨by first | omega | exact Nat.le_refl _⟩, ⟨bw HB.out⟩⟩
  subst c8
  have H1 : ((spec_l1Has.f k l1 a2).bind fun t292 => (if t292 = true then (spec_UnitCircuit.j0 k l0 l1 a2 true) else ((spec_l1Put.f l1 a2).bind fun t293 => ((spec_l6Timely.f k l0 t293).bind fun t296 => (spec_UnitCircuit.j0 k l0 l1 a2 t296))))) = some (r1, r2) := by rw [if_pos rfl] at H; exact H
  clear H
  have H := H1
  clear H1
  replace H := Option.bind_eq_some_iff.mp H
  obtain ⟨t292, A90, H⟩ := H
  replace H : (if t292 = true then (spec_UnitCircuit.j0 k l0 l1 a2 true) else ((spec_l1Put.f l1 a2).bind fun t293 => ((spec_l6Timely.f k l0 t293).bind fun t296 => (spec_UnitCircuit.j0 k l0 l1 a2 t296)))) = some (r1, r2) := H
  have A9 := Aside0.mk A90
  clear A90
  by_cases c10 : t292 = true
  ·subst c10
   have H1 : (spec_UnitCircuit.j0 k l0 l1 a2 true) = some (r1, r2) := by rw [if_pos rfl] at H; exact H
   clear H
   have H := H1
   clear H1
   have H' := Aside0.mk H
   clear H
   go_wp2_with (first | ((with_reducible refine gate_callee (f := 30) rfl ?_); refine goesL_ (some 12) rfl rfl Try.func30 (by kernel_rfl) rfl #[.slice A0 l0.length c0, .slice A1 l1.length c1] rfl (by (try simp only [mA_]); first | done | rfl | (simp only [List.length_drop, List.length_take]; rfl)) ?_; (with_reducible refine (spec_l10Free.calls k _ _ l0 _ _ l1 true _ ?side1 ?side2 ?side3 ?side4 A5.out).mono ?_); (case side1 => first | exact bC HR0.out HB.out | exact Kd.C_below HR0.out HB.out); (case side2 => exact HC0.out); (case side3 => first | exact bC HR1.out HB.out | exact Kd.C_below HR1.out HB.out); (case side4 => exact HC1.out); rintro e w11 ⟨rfl, hb⟩; refine ⟨_, rfl, ?_⟩; have n0_ := Aside0.mk (below_step (bw HB.out) hb); replace HB := n0_; clear n0_; (try clear hb); (try clear hb2); (try clear hk); (try clear hi)) | (go_at_call 31; (with_reducible refine (spec_l1In.calls a2 0 (wrap64 ((l0.length : Int) - 1)) true _ A7.out).mono ?_); rintro e w' ⟨rfl, ⟨nd, rfl⟩⟩) | (go_at_call 32; (with_reducible refine (spec_l1Has.calls k _ _ l1 a2 true _ ?side1 ?side2 A9.out).mono ?_); (case side1 => repeat (first | exact (Kd.C_below HR1.out (bw HB.out)) | (with_reducible refine Kd.C_alloc ?_ _) | (with_reducible refine Kd.C_drewN ?_ _) | (with_reducible refine Kd.C_drew ?_))); (case side2 => exact HC1.out); rintro e w' ⟨rfl, ⟨nd, rfl⟩⟩))
   go_meet
   case rel => exact ⟨_, (true), (by first | rfl | (simp; done) | (simp [*]; done)), H', ⟨by first | omega | exact Nat.le_refl _⟩, ⟨bw HB.out⟩⟩
  replace c10 := Bool.eq_false_iff.mpr c10
  subst c10
  have H1 : ((spec_l1Put.f l1 a2).bind fun t293 => ((spec_l6Timely.f k l0 t293).bind fun t296 => (spec_UnitCircuit.j0 k l0 l1 a2 t296))) = some (r1, r2) := by rw [if_neg (show ¬ (false = true) by decide)] at H; exact H
  clear H
  have H := H1
  clear H1
  replace H := Option.bind_eq_some_iff.mp H
  obtain ⟨t293, A120, H⟩ := H
  replace H : ((spec_l6Timely.f k l0 t293).bind fun t296 => (spec_UnitCircuit.j0 k l0 l1 a2 t296)) = some (r1, r2) := H
  have A12 := Aside0.mk A120
  clear A120
  replace H := Option.bind_eq_some_iff.mp H
  obtain ⟨t296, A130, H⟩ := H
  replace H : (spec_UnitCircuit.j0 k l0 l1 a2 t296) = some (r1, r2) := H
  have A13 := Aside0.mk A130
  clear A130
  have H' := Aside0.mk H
  clear H
  go_wp2_with (first | ((with_reducible refine gate_callee (f := 30) rfl ?_); refine goesL_ (some 12) rfl rfl Try.func30 (by kernel_rfl) rfl #[.slice A0 l0.length c0, .slice A1 l1.length c1] rfl (by (try simp only [mA_]); first | done | rfl | (simp only [List.length_drop, List.length_take]; rfl)) ?_; (with_reducible refine (spec_l10Free.calls k _ _ l0 _ _ l1 true _ ?side1 ?side2 ?side3 ?side4 A5.out).mono ?_); (case side1 => first | exact bC HR0.out HB.out | exact Kd.C_below HR0.out HB.out); (case side2 => exact HC0.out); (case side3 => first | exact bC HR1.out HB.out | exact Kd.C_below HR1.out HB.out); (case side4 => exact HC1.out); rintro e w14 ⟨rfl, hb⟩; refine ⟨_, rfl, ?_⟩; have n0_ := Aside0.mk (below_step (bw HB.out) hb); replace HB := n0_; clear n0_; (try clear hb); (try clear hb2); (try clear hk); (try clear hi)) | (go_at_call 31; (with_reducible refine (spec_l1In.calls a2 0 (wrap64 ((l0.length : Int) - 1)) true _ A7.out).mono ?_); rintro e w' ⟨rfl, ⟨nd, rfl⟩⟩) | (go_at_call 32; (with_reducible refine (spec_l1Has.calls k _ _ l1 a2 false _ ?side1 ?side2 A9.out).mono ?_); (case side1 => repeat (first | exact (Kd.C_below HR1.out (bw HB.out)) | (with_reducible refine Kd.C_alloc ?_ _) | (with_reducible refine Kd.C_drewN ?_ _) | (with_reducible refine Kd.C_drew ?_))); (case side2 => exact HC1.out); rintro e w' ⟨rfl, ⟨nd, rfl⟩⟩) | (go_at_call 33; (with_reducible refine (spec_l1Put.calls _ _ l1 a2 t293 _ ?side1 ?side2 A12.out).mono ?_); (case side1 => repeat (first | exact (Kd.C_below HR1.out (bw HB.out)) | (with_reducible refine Kd.C_alloc ?_ _) | (with_reducible refine Kd.C_drewN ?_ _) | (with_reducible refine Kd.C_drew ?_))); (case side2 => exact HC1.out); rintro e w15 ⟨v294, rfl, ho0, hb⟩; have n0_ := Aside0.mk (Kd.R_lower ho0 (below_size (bw HB.out))); have n1_ := Aside0.mk (below_step (bw HB.out) hb); have HO295 := n0_; replace HB := n1_; clear n0_ n1_; (try clear hb); (try clear hb2); (try clear hk); (try clear hi); (try clear ho0); obtain ⟨Ao16, co16, eo16⟩ := Kd.R_slice HO295.out; subst eo16) | (go_at_call 19; (with_reducible refine (spec_l6Timely.calls k _ _ l0 _ _ t293 t296 _ ?side1 ?side2 ?side3 ?side4 A13.out).mono ?_); (case side1 => first | exact bC HR0.out HB.out | exact Kd.C_below HR0.out HB.out); (case side2 => exact HC0.out); (case side3 => repeat (first | exact (Kd.R_reads' HO295.out).2.2 | (with_reducible refine Kd.C_alloc ?_ _) | (with_reducible refine Kd.C_drewN ?_ _) | (with_reducible refine Kd.C_drew ?_))); (case side4 => exact (Kd.R_reads' HO295.out).2.1); rintro e w17 ⟨rfl, hb⟩; have n0_ := Aside0.mk (Kd.R_below (bR HO295.out) hb); have n1_ := Aside0.mk (below_step (bw HB.out) hb); replace HO295 := n0_; replace HB := n1_; clear n0_ n1_; (try clear hb); (try clear hb2); (try clear hk); (try clear hi)))
  go_meet
  case rel => exact ⟨_, (t296), (by first | rfl | (simp; done) | (simp [*]; done)), H', ⟨by first | omega | exact Nat.le_refl _⟩, ⟨bw HB.out⟩⟩
 case rest =>
  clear HC4
  try clear c1
  try clear p2
  try clear c3
  try clear c6
  try clear p6
  try clear c8
  try clear c10
  try clear c15
  obtain ⟨kq, x33_3, rfl, HA, HJ3, HB⟩ := hcut
  cases kq with
  | zero => exact absurd HA.out (by simp [spec_UnitCircuit.j0])
  | succ kj3 =>
   have H := HA.out
   clear HA
   simp only [spec_UnitCircuit.j0] at H
   by_cases c20 : x33_3 = true
   ·subst c20
    have H1 : (some ((([] : List Int)), false)) = some (r1, r2) := by rw [if_pos rfl] at H; exact H
    clear H
    have H := H1
    clear H1
    obtain ⟨y297, hy297⟩ : ∃ y_ : List Int, y_ = (([] : List Int)) := ⟨_, rfl⟩
    replace H : (some (y297, false)) = some (r1, r2) := by first | (rw [hy297]; with_reducible exact H) | (have H2_ := (Option.bind_some _ _).symm.trans H; rw [hy297]; with_reducible exact H2_) | (have H2_ := (Option.bind_some _ _).symm.trans H; with_reducible exact H2_) | with_reducible exact H | (rw [hy297]; exact H) | exact H
    have Ny297 := Aside0.mk hy297
    clear hy297
    simp only [Option.some.injEq, Prod.mk.injEq] at H
    obtain ⟨rfl, rfl⟩ := H
    go_wp2_with (first | ((with_reducible refine gate_dst (N := 34) rfl ?_); (try (refine gate_guard (by rfl) ?_; dsimp only)); refine Kd.R_lit (Kd.int .i64) _ 3 ?hg (N := 34) ?hd (xs := ([] : List Int)) (inner := []) (ok := fun _ => True) (okp := fun _ => True) ?hr ?hp (fun _ hk => hk) trivial (Below.refl _ _) (Nat.le_refl _) (by simp) ?_; (case hd => rfl); (case hg => rfl); (case hr => first | (go_simp; done) | (go_simp; rfl)); (case hp => exact (Reps.none _ _)); intro v298 w21 ho22 hb hg_ hnew_; clear hg_ hnew_; (first | rw [← Ny297.out] at ho22 | (simp only [Int.reduceToNat] at ho22; rw [← Ny297.out] at ho22)); have n0_ := Aside0.mk (Kd.R_lower ho22 (below_size (bw HB.out))); have n1_ := Aside0.mk (below_step (bw HB.out) hb); have HO299 := n0_; replace HB := n1_; clear n0_ n1_; clear hb ho22))
    go_ret2
    exact ⟨_, by first | rfl | (simp [errW_none, errW_some] <;> rfl) | (simp [*, errW_none, errW_some] <;> rfl), by (with_reducible repeat (first | apply Kd.R_alloc | apply Kd.R_drewN | apply Kd.R_drew)); exact HO299.out, bw HB.out⟩
   replace c20 := Bool.eq_false_iff.mpr c20
   subst c20
   have H1 : (spec_UnitCircuit.l0 kj3 l0 l1 a2 (([a2] : List Int)) 0) = some (r1, r2) := by rw [if_neg (show ¬ (false = true) by decide)] at H; exact H
   clear H
   have H := H1
   clear H1
   obtain ⟨y300, hy300⟩ : ∃ y_ : List Int, y_ = (([a2] : List Int)) := ⟨_, rfl⟩
   replace H : (spec_UnitCircuit.l0 kj3 l0 l1 a2 y300 0) = some (r1, r2) := by first | (rw [hy300]; with_reducible exact H) | (have H2_ := (Option.bind_some _ _).symm.trans H; rw [hy300]; with_reducible exact H2_) | (have H2_ := (Option.bind_some _ _).symm.trans H; with_reducible exact H2_) | with_reducible exact H | (rw [hy300]; exact H) | exact H
   have Ny300 := Aside0.mk hy300
   clear hy300
   have H' := Aside0.mk H
   clear H
   go_wp2_with (first | ((with_reducible refine gate_dst (N := 36) rfl ?_); (try (refine gate_guard (by rfl) ?_; dsimp only)); refine Kd.R_lit (Kd.int .i64) _ 3 ?hg (N := 36) ?hd (xs := ([a2] : List Int)) (inner := [.int .i64 a2]) (ok := fun _ => True) (okp := fun _ => True) ?hr ?hp (fun _ hk => hk) trivial (Below.refl _ _) (Nat.le_refl _) (by simp) ?_; (case hd => rfl); (case hg => rfl); (case hr => first | (go_simp; done) | (go_simp; rfl)); (case hp => exact (Reps.one (show Kd.M (Kd.int .i64) _ _ _ a2 [.int .i64 a2] from rfl) (Reps.none _ _))); intro v301 w23 ho24 hb hg_ hnew_; clear hg_ hnew_; (first | rw [← Ny300.out] at ho24 | (simp only [Int.reduceToNat] at ho24; rw [← Ny300.out] at ho24)); have n0_ := Aside0.mk (Kd.R_lower ho24 (below_size (bw HB.out))); have n1_ := Aside0.mk (below_step (bw HB.out) hb); have HO302 := n0_; replace HB := n1_; clear n0_ n1_; clear hb ho24))
   go_loopg [8, 9] kj3 (fun kq v8 v9 w' => ∃ (x8_2 : List Int) (x9_2 : Int), v9 = .int .i64 x9_2 ∧ Aside0 (spec_UnitCircuit.l0 kq l0 l1 a2 x8_2 x9_2 = some (r1, r2)) ∧ Aside0 (kq ≤ kj3) ∧ Aside0 (Kd.R (Kd.int .i64) 3 w' w.heap.size (fun _ => True) v8 x8_2) ∧ Aside0 (Below w.heap.size w w'))
   case atStart => exact ⟨(y300), (0), (by first | rfl | (simp; done) | (simp [*]; done)), H', ⟨Nat.le_refl _⟩, ⟨bR HO302.out⟩, ⟨bw HB.out⟩⟩
   case round =>
    clear H'
    try clear c1
    try clear c2
    try clear p2
    try clear c3
    try clear c6
    try clear p6
    try clear c8
    try clear c10
    try clear c15
    try clear c20
    try clear p2
    try clear p6
    obtain ⟨x8_2, x9_2, rfl, HA, HK2, HO_8, HB⟩ := hrel
    cases gk with
    | zero => exact absurd HA.out (by simp [spec_UnitCircuit.l0])
    | succ k2 =>
     have H := HA.out
     clear HA
     simp only [spec_UnitCircuit.l0] at H
     by_cases c25 : x9_2 < (l1.length : Int)
     rotate_left
     ·rw [if_neg c25] at H
      have c25b0 : decide (x9_2 < (l1.length : Int)) = false := decide_eq_false c25
      clear c25
      simp only [Option.some.injEq, Prod.mk.injEq] at H
      obtain ⟨rfl, rfl⟩ := H
      go_wp2
      go_ret2
      exact ⟨_, by first | rfl | (simp [errW_none, errW_some] <;> rfl) | (simp [*, errW_none, errW_some] <;> rfl), by (with_reducible repeat (first | apply Kd.R_alloc | apply Kd.R_drewN | apply Kd.R_drew)); exact HO_8.out, bw HB.out⟩
     rw [if_pos c25] at H
     have c25b0 : decide (x9_2 < (l1.length : Int)) = true := decide_eq_true c25
     clear c25
     by_cases c26 : 0 ≤ x9_2
     rotate_left
     ·rw [if_neg c26] at H
      exact absurd H (by simp)
     rw [if_pos c26] at H
     have c26b0 := eq_true c26
     have c26b1 : decide (0 ≤ x9_2) = true := decide_eq_true c26
     clear c26
     by_cases c27 : x9_2 ≤ (wrap64 (x9_2 + 1))
     rotate_left
     ·rw [if_neg c27] at H
      exact absurd H (by simp)
     rw [if_pos c27] at H
     have c27b0 := eq_true c27
     have c27b1 : decide (x9_2 ≤ (wrap64 (x9_2 + 1))) = true := decide_eq_true c27
     by_cases c28 : (wrap64 (x9_2 + 1)) ≤ (l1.length : Int)
     rotate_left
     ·rw [if_neg c28] at H
      exact absurd H (by simp)
     rw [if_pos c28] at H
     have c28b0 := eq_true c28
     have c28b1 : decide ((wrap64 (x9_2 + 1)) ≤ (l1.length : Int)) = true := decide_eq_true c28
     replace H := Option.bind_eq_some_iff.mp H
     obtain ⟨t304, A290, H⟩ := H
     replace H : ((spec_l1Put.f t304 a2).bind fun t307 => ((spec_l6Timely.f k2 l0 t307).bind fun t310 => (if t310 = true then ((spec_l1Put.f x8_2 (rd l1 x9_2)).bind fun t312 => (spec_UnitCircuit.l0 k2 l0 l1 a2 t312 (wrap64 (x9_2 + 1)))) else (spec_UnitCircuit.l0 k2 l0 l1 a2 x8_2 (wrap64 (x9_2 + 1)))))) = some (r1, r2) := H
     have A29 := Aside0.mk A290
     clear A290
     replace H := Option.bind_eq_some_iff.mp H
     obtain ⟨t307, A300, H⟩ := H
     replace H : ((spec_l6Timely.f k2 l0 t307).bind fun t310 => (if t310 = true then ((spec_l1Put.f x8_2 (rd l1 x9_2)).bind fun t312 => (spec_UnitCircuit.l0 k2 l0 l1 a2 t312 (wrap64 (x9_2 + 1)))) else (spec_UnitCircuit.l0 k2 l0 l1 a2 x8_2 (wrap64 (x9_2 + 1))))) = some (r1, r2) := H
     have A30 := Aside0.mk A300
     clear A300
     replace H := Option.bind_eq_some_iff.mp H
     obtain ⟨t310, A310, H⟩ := H
     replace H : (if t310 = true then ((spec_l1Put.f x8_2 (rd l1 x9_2)).bind fun t312 => (spec_UnitCircuit.l0 k2 l0 l1 a2 t312 (wrap64 (x9_2 + 1)))) else (spec_UnitCircuit.l0 k2 l0 l1 a2 x8_2 (wrap64 (x9_2 + 1)))) = some (r1, r2) := H
     have A31 := Aside0.mk A310
     clear A310
     by_cases c32 : t310 = true
     rotate_left
     ·replace c32 := Bool.eq_false_iff.mpr c32
      subst c32
      have H1 : (spec_UnitCircuit.l0 k2 l0 l1 a2 x8_2 (wrap64 (x9_2 + 1))) = some (r1, r2) := by rw [if_neg (show ¬ (false = true) by decide)] at H; exact H
      clear H
      have H := H1
      clear H1
      have H' := Aside0.mk H
      clear H
      obtain ⟨i042, hi042, _, hsz42, _⟩ := info_parts info3
      obtain ⟨A42, hcut42, hA42, hC42⟩ := print_mid_of (P := Try.prog) (Value.int .i64) 0 23 3 .i64 .i64 Try.underlying23 hi042 hsz42 A1 c1 l1 x9_2 (wrap64 (x9_2 + 1)) (of_decide_eq_true (by first | (with_reducible assumption) | assumption)) (by first | omega | exact of_decide_eq_true (by first | (with_reducible assumption) | assumption)) (of_decide_eq_true (by first | (with_reducible assumption) | assumption)) HC1.out
      have HR303 := Aside0.mk (Kd.C_of_reads (h1 := fun _ => rfl) (hA42 _ (Kd.reads_of_C HR1.out)))
      have HC303 := Aside0.mk hC42
      clear hA42 hC42 hi042 hsz42
      go_wp2_with (first | ((with_reducible refine gate_callee (f := 21) rfl ?_); refine goesL_ (some 50) rfl rfl Try.func21 (by kernel_rfl) rfl #[.slice A1 l1.length c1, .slice A42 ((l1.take ((wrap64 (x9_2 + 1)) : Int).toNat).drop (x9_2 : Int).toNat).length (c1 - x9_2.toNat)] rfl (by (try simp only [mA_]); first | done | (rw [show ((l1.take ((wrap64 (x9_2 + 1)) : Int).toNat).drop (x9_2 : Int).toNat).length = ((wrap64 (x9_2 + 1)).toNat - x9_2.toNat) from (by rw [List.length_drop, List.length_take]; have h_ : ((wrap64 (x9_2 + 1)) : Int) ≤ (l1.length : Int) := of_decide_eq_true (by first | (with_reducible assumption) | assumption); omega)] <;> rfl) | rfl | (simp only [List.length_drop, List.length_take]; rfl)) ?_; (with_reducible refine (spec_l4Rest.calls k2 _ _ l1 _ _ ((l1.take ((wrap64 (x9_2 + 1)) : Int).toNat).drop (x9_2 : Int).toNat) t304 _ ?side1 ?side2 ?side3 ?side4 A29.out).mono ?_); (case side1 => first | exact bC HR1.out HB.out | exact Kd.C_below HR1.out HB.out); (case side2 => exact HC1.out); (case side3 => first | exact bC HR303.out HB.out | exact Kd.C_below HR303.out HB.out); (case side4 => exact HC303.out); rintro e w43 ⟨v305, rfl, ho0, hb⟩; refine ⟨_, rfl, ?_⟩; have n0_ := Aside0.mk (Kd.R_elder' (bR HO_8.out) (Kd.R_base ho0) hb); have n1_ := Aside0.mk (Kd.R_lower (Kd.R_new' ho0 (Kd.R_lt (bR HO_8.out))) (below_size (bw HB.out))); have n2_ := Aside0.mk (below_step (bw HB.out) hb); replace HO_8 := n0_; have HO306 := n1_; replace HB := n2_; clear n0_ n1_ n2_; (try clear hb); (try clear hb2); (try clear hk); (try clear hi); (try clear ho0); obtain ⟨Ao44, co44, eo44⟩ := Kd.R_slice HO306.out; subst eo44) | ((with_reducible refine gate_callee (f := 33) rfl ?_); refine goesL_ (some 52) rfl rfl Try.func33 (by kernel_rfl) rfl #[.slice Ao44 t304.length co44, .int .i64 a2] rfl (by (try simp only [mA_]); first | done | rfl | (simp only [List.length_drop, List.length_take]; rfl)) ?_; (with_reducible refine (spec_l1Put.calls _ _ t304 a2 t307 _ ?side1 ?side2 A30.out).mono ?_); (case side1 => repeat (first | exact (Kd.R_reads' HO306.out).2.2 | (with_reducible refine Kd.C_alloc ?_ _) | (with_reducible refine Kd.C_drewN ?_ _) | (with_reducible refine Kd.C_drew ?_))); (case side2 => exact (Kd.R_reads' HO306.out).2.1); rintro e w45 ⟨v308, rfl, ho0, hb⟩; refine ⟨_, rfl, ?_⟩; have n0_ := Aside0.mk (Kd.R_elder' (bR HO_8.out) (Kd.R_base ho0) hb); have n1_ := Aside0.mk (Kd.R_elder' (bR HO306.out) (Kd.R_base ho0) hb); have n2_ := Aside0.mk (Kd.R_lower (Kd.R_new' (Kd.R_new' ho0 (Kd.R_lt (bR HO_8.out))) (Kd.R_lt (bR HO306.out))) (below_size (bw HB.out))); have n3_ := Aside0.mk (below_step (bw HB.out) hb); replace HO_8 := n0_; replace HO306 := n1_; have HO309 := n2_; replace HB := n3_; clear n0_ n1_ n2_ n3_; (try clear hb); (try clear hb2); (try clear hk); (try clear hi); (try clear ho0); obtain ⟨Ao46, co46, eo46⟩ := Kd.R_slice HO309.out; subst eo46) | ((with_reducible refine gate_callee (f := 19) rfl ?_); refine goesL_ (some 53) rfl rfl Try.func19 (by kernel_rfl) rfl #[.slice A0 l0.length c0, .slice Ao46 t307.length co46] rfl (by (try simp only [mA_]); first | done | rfl | (simp only [List.length_drop, List.length_take]; rfl)) ?_; (with_reducible refine (spec_l6Timely.calls k2 _ _ l0 _ _ t307 false _ ?side1 ?side2 ?side3 ?side4 A31.out).mono ?_); (case side1 => first | exact bC HR0.out HB.out | exact Kd.C_below HR0.out HB.out); (case side2 => exact HC0.out); (case side3 => repeat (first | exact (Kd.R_reads' HO309.out).2.2 | (with_reducible refine Kd.C_alloc ?_ _) | (with_reducible refine Kd.C_drewN ?_ _) | (with_reducible refine Kd.C_drew ?_))); (case side4 => exact (Kd.R_reads' HO309.out).2.1); rintro e w47 ⟨rfl, hb⟩; refine ⟨_, rfl, ?_⟩; have n0_ := Aside0.mk (Kd.R_below (bR HO_8.out) hb); have n1_ := Aside0.mk (Kd.R_below (bR HO306.out) hb); have n2_ := Aside0.mk (Kd.R_below (bR HO309.out) hb); have n3_ := Aside0.mk (below_step (bw HB.out) hb); replace HO_8 := n0_; replace HO306 := n1_; replace HO309 := n2_; replace HB := n3_; clear n0_ n1_ n2_ n3_; (try clear hb); (try clear hb2); (try clear hk); (try clear hi)))
      go_roundg k2
      case measure => have := HJ3.out; have := HK2.out; omega
      case rel => exact ⟨(x8_2), (wrap64 (x9_2 + 1)), (by first | rfl | (simp; done) | (simp [*]; done)), H', ⟨by have := HJ3.out; have := HK2.out; omega⟩, ⟨by (with_reducible repeat (first | apply Kd.R_alloc | apply Kd.R_drewN | apply Kd.R_drew)); exact Kd.R_mono HO_8.out (fun _ hk => trivial)⟩, ⟨bw HB.out⟩⟩
     subst c32
     have H1 : ((spec_l1Put.f x8_2 (rd l1 x9_2)).bind fun t312 => (spec_UnitCircuit.l0 k2 l0 l1 a2 t312 (wrap64 (x9_2 + 1)))) = some (r1, r2) := by rw [if_pos rfl] at H; exact H
     clear H
     have H := H1
     clear H1
     replace H := Option.bind_eq_some_iff.mp H
     obtain ⟨t312, A330, H⟩ := H
     replace H : (spec_UnitCircuit.l0 k2 l0 l1 a2 t312 (wrap64 (x9_2 + 1))) = some (r1, r2) := H
     have A33 := Aside0.mk A330
     clear A330
     have H' := Aside0.mk H
     clear H
     obtain ⟨i034, hi034, _, hsz34, _⟩ := info_parts info3
     obtain ⟨A34, hcut34, hA34, hC34⟩ := print_mid_of (P := Try.prog) (Value.int .i64) 0 23 3 .i64 .i64 Try.underlying23 hi034 hsz34 A1 c1 l1 x9_2 (wrap64 (x9_2 + 1)) (of_decide_eq_true (by first | (with_reducible assumption) | assumption)) (by first | omega | exact of_decide_eq_true (by first | (with_reducible assumption) | assumption)) (of_decide_eq_true (by first | (with_reducible assumption) | assumption)) HC1.out
     have HR303 := Aside0.mk (Kd.C_of_reads (h1 := fun _ => rfl) (hA34 _ (Kd.reads_of_C HR1.out)))
     have HC303 := Aside0.mk hC34
     clear hA34 hC34 hi034 hsz34
     go_wp2_with (first | ((with_reducible refine gate_callee (f := 21) rfl ?_); refine goesL_ (some 50) rfl rfl Try.func21 (by kernel_rfl) rfl #[.slice A1 l1.length c1, .slice A34 ((l1.take ((wrap64 (x9_2 + 1)) : Int).toNat).drop (x9_2 : Int).toNat).length (c1 - x9_2.toNat)] rfl (by (try simp only [mA_]); first | done | (rw [show ((l1.take ((wrap64 (x9_2 + 1)) : Int).toNat).drop (x9_2 : Int).toNat).length = ((wrap64 (x9_2 + 1)).toNat - x9_2.toNat) from (by rw [List.length_drop, List.length_take]; have h_ : ((wrap64 (x9_2 + 1)) : Int) ≤ (l1.length : Int) := of_decide_eq_true (by first | (with_reducible assumption) | assumption); omega)] <;> rfl) | rfl | (simp only [List.length_drop, List.length_take]; rfl)) ?_; (with_reducible refine (spec_l4Rest.calls k2 _ _ l1 _ _ ((l1.take ((wrap64 (x9_2 + 1)) : Int).toNat).drop (x9_2 : Int).toNat) t304 _ ?side1 ?side2 ?side3 ?side4 A29.out).mono ?_); (case side1 => first | exact bC HR1.out HB.out | exact Kd.C_below HR1.out HB.out); (case side2 => exact HC1.out); (case side3 => first | exact bC HR303.out HB.out | exact Kd.C_below HR303.out HB.out); (case side4 => exact HC303.out); rintro e w35 ⟨v305, rfl, ho0, hb⟩; refine ⟨_, rfl, ?_⟩; have n0_ := Aside0.mk (Kd.R_elder' (bR HO_8.out) (Kd.R_base ho0) hb); have n1_ := Aside0.mk (Kd.R_lower (Kd.R_new' ho0 (Kd.R_lt (bR HO_8.out))) (below_size (bw HB.out))); have n2_ := Aside0.mk (below_step (bw HB.out) hb); replace HO_8 := n0_; have HO306 := n1_; replace HB := n2_; clear n0_ n1_ n2_; (try clear hb); (try clear hb2); (try clear hk); (try clear hi); (try clear ho0); obtain ⟨Ao36, co36, eo36⟩ := Kd.R_slice HO306.out; subst eo36) | ((with_reducible refine gate_callee (f := 33) rfl ?_); refine goesL_ (some 52) rfl rfl Try.func33 (by kernel_rfl) rfl #[.slice Ao36 t304.length co36, .int .i64 a2] rfl (by (try simp only [mA_]); first | done | rfl | (simp only [List.length_drop, List.length_take]; rfl)) ?_; (with_reducible refine (spec_l1Put.calls _ _ t304 a2 t307 _ ?side1 ?side2 A30.out).mono ?_); (case side1 => repeat (first | exact (Kd.R_reads' HO306.out).2.2 | (with_reducible refine Kd.C_alloc ?_ _) | (with_reducible refine Kd.C_drewN ?_ _) | (with_reducible refine Kd.C_drew ?_))); (case side2 => exact (Kd.R_reads' HO306.out).2.1); rintro e w37 ⟨v308, rfl, ho0, hb⟩; refine ⟨_, rfl, ?_⟩; have n0_ := Aside0.mk (Kd.R_elder' (bR HO_8.out) (Kd.R_base ho0) hb); have n1_ := Aside0.mk (Kd.R_elder' (bR HO306.out) (Kd.R_base ho0) hb); have n2_ := Aside0.mk (Kd.R_lower (Kd.R_new' (Kd.R_new' ho0 (Kd.R_lt (bR HO_8.out))) (Kd.R_lt (bR HO306.out))) (below_size (bw HB.out))); have n3_ := Aside0.mk (below_step (bw HB.out) hb); replace HO_8 := n0_; replace HO306 := n1_; have HO309 := n2_; replace HB := n3_; clear n0_ n1_ n2_ n3_; (try clear hb); (try clear hb2); (try clear hk); (try clear hi); (try clear ho0); obtain ⟨Ao38, co38, eo38⟩ := Kd.R_slice HO309.out; subst eo38) | ((with_reducible refine gate_callee (f := 19) rfl ?_); refine goesL_ (some 53) rfl rfl Try.func19 (by kernel_rfl) rfl #[.slice A0 l0.length c0, .slice Ao38 t307.length co38] rfl (by (try simp only [mA_]); first | done | rfl | (simp only [List.length_drop, List.length_take]; rfl)) ?_; (with_reducible refine (spec_l6Timely.calls k2 _ _ l0 _ _ t307 true _ ?side1 ?side2 ?side3 ?side4 A31.out).mono ?_); (case side1 => first | exact bC HR0.out HB.out | exact Kd.C_below HR0.out HB.out); (case side2 => exact HC0.out); (case side3 => repeat (first | exact (Kd.R_reads' HO309.out).2.2 | (with_reducible refine Kd.C_alloc ?_ _) | (with_reducible refine Kd.C_drewN ?_ _) | (with_reducible refine Kd.C_drew ?_))); (case side4 => exact (Kd.R_reads' HO309.out).2.1); rintro e w39 ⟨rfl, hb⟩; refine ⟨_, rfl, ?_⟩; have n0_ := Aside0.mk (Kd.R_below (bR HO_8.out) hb); have n1_ := Aside0.mk (Kd.R_below (bR HO306.out) hb); have n2_ := Aside0.mk (Kd.R_below (bR HO309.out) hb); have n3_ := Aside0.mk (below_step (bw HB.out) hb); replace HO_8 := n0_; replace HO306 := n1_; replace HO309 := n2_; replace HB := n3_; clear n0_ n1_ n2_ n3_; (try clear hb); (try clear hb2); (try clear hk); (try clear hi); have p311 : 0 ≤ (x9_2 : Int) := of_decide_eq_true (by first | (with_reducible assumption) | assumption); have q311 : x9_2 < (l1.length : Int) := of_decide_eq_true (by first | (with_reducible assumption) | assumption); obtain ⟨ad311, e311, hx311_0⟩ := Kd.at_int HR1.out x9_2 p311 q311; cases e311; replace hx311_0 := (HB.out.cell (World.block_lt_of_cell? w _ hx311_0)).trans hx311_0; replace p311 := eq_true p311; replace q311 := eq_true q311; obtain ⟨Ao40, co40, eo40⟩ := Kd.R_slice HO_8.out; subst eo40) | ((with_reducible refine gate_callee (f := 33) rfl ?_); refine goesL_ (some 59) rfl rfl Try.func33 (by kernel_rfl) rfl #[.slice Ao40 x8_2.length co40, .int .i64 (rd l1 x9_2)] rfl (by (try simp only [mA_]); first | done | rfl | (simp only [List.length_drop, List.length_take]; rfl)) ?_; (with_reducible refine (spec_l1Put.calls _ _ x8_2 (rd l1 x9_2) t312 _ ?side1 ?side2 A33.out).mono ?_); (case side1 => repeat (first | exact (Kd.R_reads' HO_8.out).2.2 | (with_reducible refine Kd.C_alloc ?_ _) | (with_reducible refine Kd.C_drewN ?_ _) | (with_reducible refine Kd.C_drew ?_))); (case side2 => exact (Kd.R_reads' HO_8.out).2.1); rintro e w41 ⟨v313, rfl, ho0, hb⟩; refine ⟨_, rfl, ?_⟩; have n0_ := Aside0.mk (Kd.R_elder' (bR HO_8.out) (Kd.R_base ho0) hb); have n1_ := Aside0.mk (Kd.R_elder' (bR HO306.out) (Kd.R_base ho0) hb); have n2_ := Aside0.mk (Kd.R_elder' (bR HO309.out) (Kd.R_base ho0) hb); have n3_ := Aside0.mk (Kd.R_lower (Kd.R_new' (Kd.R_new' (Kd.R_new' ho0 (Kd.R_lt (bR HO_8.out))) (Kd.R_lt (bR HO306.out))) (Kd.R_lt (bR HO309.out))) (below_size (bw HB.out))); have n4_ := Aside0.mk (below_step (bw HB.out) hb); replace HO_8 := n0_; replace HO306 := n1_; replace HO309 := n2_; have HO314 := n3_; replace HB := n4_; clear n0_ n1_ n2_ n3_ n4_; (try clear hb); (try clear hb2); (try clear hk); (try clear hi); (try clear ho0)))
     go_roundg k2
     case measure => have := HJ3.out; have := HK2.out; omega
     case rel => exact ⟨(t312), (wrap64 (x9_2 + 1)), (by first | rfl | (simp; done) | (simp [*]; done)), H', ⟨by have := HJ3.out; have := HK2.out; omega⟩, ⟨by (with_reducible repeat (first | apply Kd.R_alloc | apply Kd.R_drewN | apply Kd.R_drew)); exact Kd.R_mono HO314.out (fun _ hk => trivial)⟩, ⟨bw HB.out⟩⟩

/-! ### impl_areUnit: function 34 -/
def impl_areUnit.l0 : Nat → List (S43) → Int → Int → Option (Bool)
 | 0, _, _, _ => none
 | k + 1, x8, x9, x10 => if x10 < x9 then (if 0 ≤ x10 then (if x10 < (x8.length : Int) then (if ((rd_T43 x8 x10).f0) = 1 then (impl_areUnit.l0 k x8 x9 (wrap64 (x10 + 1))) else (some false)) else (none)) else (none)) else (some true)
def impl_areUnit.f (k : Nat) (l0 : List (S43)) : Option (Bool) := (impl_IsPlain.f k l0).bind fun t315 => (if t315 = true then (impl_areUnit.l0 k l0 (l0.length : Int) 0) else (some false))
theorem impl_areUnit.mono_l : ∀ k, (∀ y0 y1 y2, LeO (impl_areUnit.l0 k y0 y1 y2) (impl_areUnit.l0 (k + 1) y0 y1 y2))
 | 0 => fun _ _ _ r h => by simp [impl_areUnit.l0] at h
 | k + 1 => by
  have ih0 := impl_areUnit.mono_l k
  ·intro y0 y1 y2
   unfold impl_areUnit.l0
   repeat' first
   | (with_reducible exact ih0 _ _ _)
   | (with_reducible exact impl_IsPlain.mono _ _)
   | (with_reducible exact LeO.refl _)
   | (with_reducible exact LeO.none _)
   | (with_reducible refine LeO.ite ?_ ?_)
   | (with_reducible refine LeO.bind ?_ (fun _ => ?_))
   | exact ih0 _ _ _
   | exact impl_IsPlain.mono _ _
   | exact LeO.none _
   | refine LeO.ite ?_ ?_
   | refine LeO.bind ?_ (fun _ => ?_)
theorem impl_areUnit.mono : ∀ a0 k, LeO (impl_areUnit.f k a0) (impl_areUnit.f (k + 1) a0) := by
 intro a0 k
 have ih0 := impl_areUnit.mono_l k
 unfold impl_areUnit.f
 repeat' first
   | (with_reducible exact ih0 _ _ _)
   | (with_reducible exact impl_IsPlain.mono _ _)
   | (with_reducible exact LeO.refl _)
   | (with_reducible exact LeO.none _)
   | (with_reducible refine LeO.ite ?_ ?_)
   | (with_reducible refine LeO.bind ?_ (fun _ => ?_))
   | exact ih0 _ _ _
   | exact impl_IsPlain.mono _ _
   | exact LeO.none _
   | refine LeO.ite ?_ ?_
   | refine LeO.bind ?_ (fun _ => ?_)
set_option maxHeartbeats 8000000 in
set_option maxRecDepth 100000 in
theorem impl_areUnit.calls (k : Nat) (A0 : Option Addr) (c0 : Nat) (l0 : List (S43)) (r : Bool) (w : World) (hr0 : Kd.C k43 w A0 l0.length l0) (hc0 : l0.length ≤ c0) (h : impl_areUnit.f k l0 = some r) :
  Calls Try.prog 34 #[.slice A0 l0.length c0] w fun e w' => e = .returned (.bool r) ∧ Below w.heap.size w w' := by
 have hu43 := Try.underlying43
 have HR0 := Aside0.mk hr0
 have HC0 := Aside0.mk hc0
 clear hr0 hc0
 have HB := Aside0.mk (Below.refl w.heap.size w)
 have H : ((impl_IsPlain.f k l0).bind fun t315 => (if t315 = true then (impl_areUnit.l0 k l0 (l0.length : Int) 0) else (some false))) = some r := h
 clear h
 replace H := Option.bind_eq_some_iff.mp H
 obtain ⟨t315, A20, H⟩ := H
 replace H : (if t315 = true then (impl_areUnit.l0 k l0 (l0.length : Int) 0) else (some false)) = some r := H
 have A2 := Aside0.mk A20
 clear A20
 by_cases c3 : t315 = true
 rotate_left
 ·replace c3 := Bool.eq_false_iff.mpr c3
  subst c3
  have H1 : (some false) = some r := by rw [if_neg (show ¬ (false = true) by decide)] at H; exact H
  clear H
  have H := H1
  clear H1
  obtain rfl := Option.some.inj H
  go_enter Try.func34, Try.ntmps34
  go_wp2_with (first | ((with_reducible refine gate_callee (f := 24) rfl ?_); refine goesL_ (some 6) rfl rfl Try.func24 (by kernel_rfl) rfl #[.slice A0 l0.length c0] rfl (by (try simp only [mA_]); first | done | rfl | (simp only [List.length_drop, List.length_take]; rfl)) ?_; (with_reducible refine (impl_IsPlain.calls k _ _ l0 false _ ?side1 ?side2 A2.out).mono ?_); (case side1 => repeat (first | exact HR0.out | (with_reducible refine Kd.C_alloc ?_ _) | (with_reducible refine Kd.C_drewN ?_ _) | (with_reducible refine Kd.C_drew ?_))); (case side2 => exact HC0.out); rintro e w13 ⟨rfl, hb⟩; refine ⟨_, rfl, ?_⟩; have n0_ := Aside0.mk (below_step (bw HB.out) hb); replace HB := n0_; clear n0_; (try clear hb); (try clear hb2); (try clear hk); (try clear hi)))
  go_ret
  exact ⟨by first | rfl | (simp [errW_none, errW_some] <;> rfl) | (simp [*, errW_none, errW_some] <;> rfl), bw HB.out⟩
 subst c3
 have H1 : (impl_areUnit.l0 k l0 (l0.length : Int) 0) = some r := by rw [if_pos rfl] at H; exact H
 clear H
 have H := H1
 clear H1
 have H' := Aside0.mk H
 clear H
 go_enter Try.func34, Try.ntmps34
 go_wp2_with (first | ((with_reducible refine gate_callee (f := 24) rfl ?_); refine goesL_ (some 6) rfl rfl Try.func24 (by kernel_rfl) rfl #[.slice A0 l0.length c0] rfl (by (try simp only [mA_]); first | done | rfl | (simp only [List.length_drop, List.length_take]; rfl)) ?_; (with_reducible refine (impl_IsPlain.calls k _ _ l0 true _ ?side1 ?side2 A2.out).mono ?_); (case side1 => repeat (first | exact HR0.out | (with_reducible refine Kd.C_alloc ?_ _) | (with_reducible refine Kd.C_drewN ?_ _) | (with_reducible refine Kd.C_drew ?_))); (case side2 => exact HC0.out); rintro e w4 ⟨rfl, hb⟩; refine ⟨_, rfl, ?_⟩; have n0_ := Aside0.mk (below_step (bw HB.out) hb); replace HB := n0_; clear n0_; (try clear hb); (try clear hb2); (try clear hk); (try clear hi)))
 go_loopg [10] k (fun kq v10 w' => ∃ (x10_1 : Int), v10 = .int .i64 x10_1 ∧ Aside0 (impl_areUnit.l0 kq l0 (l0.length : Int) x10_1 = some r) ∧ Aside0 (kq ≤ k) ∧ Aside0 (Below w.heap.size w w'))
 case atStart => exact ⟨(0), (by first | rfl | (simp; done) | (simp [*]; done)), H', ⟨Nat.le_refl _⟩, ⟨bw HB.out⟩⟩
 case round =>
  clear H'
  try clear c2
  try clear p2
  try clear c3
  obtain ⟨x10_1, rfl, HA, HK1, HB⟩ := hrel
  cases gk with
  | zero => exact absurd HA.out (by simp [impl_areUnit.l0])
  | succ k1 =>
   have H := HA.out
   clear HA
   simp only [impl_areUnit.l0] at H
   by_cases c5 : x10_1 < (l0.length : Int)
   rotate_left
   ·rw [if_neg c5] at H
    have c5b0 : decide (x10_1 < (l0.length : Int)) = false := decide_eq_false c5
    clear c5
    obtain rfl := Option.some.inj H
    go_wp2
    go_ret
    exact ⟨by first | rfl | (simp [errW_none, errW_some] <;> rfl) | (simp [*, errW_none, errW_some] <;> rfl), bw HB.out⟩
   rw [if_pos c5] at H
   have c5b0 : decide (x10_1 < (l0.length : Int)) = true := decide_eq_true c5
   clear c5
   by_cases c6 : 0 ≤ x10_1
   rotate_left
   ·rw [if_neg c6] at H
    exact absurd H (by simp)
   rw [if_pos c6] at H
   have c6b0 : decide (0 ≤ x10_1) = true := decide_eq_true c6
   clear c6
   by_cases c7 : x10_1 < (l0.length : Int)
   rotate_left
   ·rw [if_neg c7] at H
    exact absurd H (by simp)
   rw [if_pos c7] at H
   have c7b0 : decide (x10_1 < (l0.length : Int)) = true := decide_eq_true c7
   clear c7
   by_cases c8 : ((rd_T43 l0 x10_1).f0) = 1
   rotate_left
   ·rw [if_neg c8] at H
    have c8b0 : (((rd_T43 l0 x10_1).f0) == 1) = false := beq_eq_false_iff_ne.mpr c8
    have c8b1 : (((rd_T43 l0 x10_1).f0) != 1) = true := bne_iff_ne.mpr c8
    obtain rfl := Option.some.inj H
    have p316 : 0 ≤ (x10_1 : Int) := of_decide_eq_true (by first | (with_reducible assumption) | assumption)
    have q316 : x10_1 < (l0.length : Int) := of_decide_eq_true (by first | (with_reducible assumption) | assumption)
    obtain ⟨ad316, e316, hx316_0, hx316_1, hx316_2, hx316_3⟩ := at_T43 HR0.out x10_1 p316 q316
    cases e316
    replace hx316_0 := (HB.out.cell (World.block_lt_of_cell? w _ hx316_0)).trans hx316_0
    replace hx316_1 := (HB.out.cell (World.block_lt_of_cell? w _ hx316_1)).trans hx316_1
    replace hx316_2 := (HB.out.cell (World.block_lt_of_cell? w _ hx316_2)).trans hx316_2
    replace hx316_3 := (HB.out.cell (World.block_lt_of_cell? w _ hx316_3)).trans hx316_3
    replace p316 := eq_true p316
    replace q316 := eq_true q316
    go_wp2_with (first | ((with_reducible refine gate_dst (N := 4) rfl ?_); refine box_event ?hg (N := 4) ?hd (cs := #[.int .i64 0, .int .i64 0, .int .i64 0, .int .i64 0]) (t := 43) ?hr ?_; (case hd => rfl); (case hg => rfl); (case hr => first | (go_simp; done) | (go_simp; rfl)); intro gb317 hg w11 hbox hb; have n0_ := Aside0.mk (below_step (bw HB.out) hb); have n1_ := Aside0.mk (hbox); have n2_ := ge_ hg HB.out; have n3_ := ge_ hg HB.out; replace HB := n0_; have BK317 := n1_; have GW317 := n2_; have GE317 := n3_; clear n0_ n1_ n2_ n3_; clear hb hbox hg; obtain ⟨hcz12_0, hcz12_1, hcz12_2, hcz12_3, hfz12_0, hfz12_1, hfz12_2, hfz12_3⟩ := bz4 BK317.out))
    go_ret
    exact ⟨by first | rfl | (simp [errW_none, errW_some] <;> rfl) | (simp [*, errW_none, errW_some] <;> rfl), by repeat (first | (with_reducible first | exact bw HB.out | refine bset ?_ | apply bA | apply bN | apply bD) | exact HB.out)⟩
   rw [if_pos c8] at H
   have c8b0 : (((rd_T43 l0 x10_1).f0) == 1) = true := beq_iff_eq.mpr c8
   have c8b1 : (((rd_T43 l0 x10_1).f0) != 1) = false := bne_eq_false_iff_eq.mpr c8
   clear c8
   have H' := Aside0.mk H
   clear H
   have p316 : 0 ≤ (x10_1 : Int) := of_decide_eq_true (by first | (with_reducible assumption) | assumption)
   have q316 : x10_1 < (l0.length : Int) := of_decide_eq_true (by first | (with_reducible assumption) | assumption)
   obtain ⟨ad316, e316, hx316_0, hx316_1, hx316_2, hx316_3⟩ := at_T43 HR0.out x10_1 p316 q316
   cases e316
   replace hx316_0 := (HB.out.cell (World.block_lt_of_cell? w _ hx316_0)).trans hx316_0
   replace hx316_1 := (HB.out.cell (World.block_lt_of_cell? w _ hx316_1)).trans hx316_1
   replace hx316_2 := (HB.out.cell (World.block_lt_of_cell? w _ hx316_2)).trans hx316_2
   replace hx316_3 := (HB.out.cell (World.block_lt_of_cell? w _ hx316_3)).trans hx316_3
   replace p316 := eq_true p316
   replace q316 := eq_true q316
   go_wp2_with (first | ((with_reducible refine gate_dst (N := 4) rfl ?_); refine box_event ?hg (N := 4) ?hd (cs := #[.int .i64 0, .int .i64 0, .int .i64 0, .int .i64 0]) (t := 43) ?hr ?_; (case hd => rfl); (case hg => rfl); (case hr => first | (go_simp; done) | (go_simp; rfl)); intro gb317 hg w9 hbox hb; have n0_ := Aside0.mk (below_step (bw HB.out) hb); have n1_ := Aside0.mk (hbox); have n2_ := ge_ hg HB.out; have n3_ := ge_ hg HB.out; replace HB := n0_; have BK317 := n1_; have GW317 := n2_; have GE317 := n3_; clear n0_ n1_ n2_ n3_; clear hb hbox hg; obtain ⟨hcz10_0, hcz10_1, hcz10_2, hcz10_3, hfz10_0, hfz10_1, hfz10_2, hfz10_3⟩ := bz4 BK317.out))
   go_roundg k1
   case measure => have := HK1.out; omega
   case rel => exact ⟨(wrap64 (x10_1 + 1)), (by first | rfl | (simp; done) | (simp [*]; done)), H', ⟨by have := HK1.out; omega⟩, ⟨by repeat (first | (with_reducible first | exact bw HB.out | refine bset ?_ | apply bA | apply bN | apply bD) | exact HB.out)⟩⟩

/-! ### impl_putInt: function 37 -/
/-- Where a number is put into a row: behind the last one that is not greater. -/
def impl_putInt.posK (x : Int) (l : List Int) : Nat → Nat
 | 0 => 0
 | n + 1 => if l.getD n 0 > x then impl_putInt.posK x l n else n + 1
theorem impl_putInt.posK_le (x : Int) (l : List Int) : ∀ n, impl_putInt.posK x l n ≤ n
 | 0 => Nat.le_refl _
 | n + 1 => by
  rw [impl_putInt.posK]
  have := impl_putInt.posK_le x l n
  split <;> omega
def impl_putInt.insL (out : List Int) (k : Nat) (i : Int) : List Int := out.take k ++ i :: out.drop k
/-- A number that is not in the row is put into it (where it is there the contract tells nothing). -/
def impl_putInt.f (l0 : List Int) (a1 : Int) : Option (List Int) := if a1 ∈ l0 then none else if l0.length ≤ 1000000 then some (impl_putInt.insL l0 (impl_putInt.posK a1 l0 l0.length) a1) else none
theorem impl_putInt.sort_copied {W : World} {base go n c : Nat} {ok : Nat → Prop} {xs : List Int} (h : Kd.R (Kd.int .i64) 3 W base ok (.slice (some ⟨go, 0, none⟩) n c) xs) (hp : 0 < n) :
  ∃ cur : List Value, W.heap[go]? = some (.cells cur.toArray 3 (0, 0)) ∧ base ≤ go ∧ n ≤ cur.length ∧ ∀ (cs : List Int) (off : Nat) (W9 : World), off + cs.length ≤ n → W9.heap[go]? = some (.cells (splice cur off (cs.map (Value.int .i64))).toArray 3 (0, 0)) →
   Kd.R (Kd.int .i64) 3 W9 base ok (.slice (some ⟨go, 0, none⟩) n c) (xs.take off ++ (cs ++ xs.drop (off + cs.length))) := by
 have hown := Kd.own_of_R (show (Kd.scalar (Value.int .i64) (fun _ => rfl)).R 3 W base ok _ xs from h)
 obtain ⟨hl, hd⟩ := hown
 rcases hd with ⟨hv, _⟩ | ⟨g', cap', cur, hv, hb, hh, hnc, hcm, hcs, ht⟩
 ·cases hv
 ·injection hv with ha hn hc
  injection ha with ha
  injection ha with hg
  subst hg hc
  subst hn
  refine ⟨cur.toList, by simpa using hh, hb, by simp; omega, fun cs off W9 hfit h9 => ?_⟩
  refine Kd.R_of_own ⟨by simp [encs], .inr ⟨go, c, (splice cur.toList off (cs.map (Value.int .i64))).toArray, ?_, hb, h9, ?_, hcm, ?_, ?_⟩⟩ h.1
  ·simp; omega
  ·simp; omega
  ·have := length_splice cur.toList off (cs.map (Value.int .i64)) (by simp; omega)
   simpa [hcs] using this
  ·have e : (xs.take off ++ (cs ++ xs.drop (off + cs.length))).length = xs.length := by simp; omega
   rw [e, Nat.mul_one]
   rw [Nat.mul_one] at ht
   have e2 : cur.toList = encs (Value.int .i64) xs ++ cur.toList.drop xs.length := by
    rw [← ht]
    exact (List.take_append_drop _ _).symm
   generalize cur.toList.drop xs.length = s at e2
   have hE : (encs (Value.int .i64) xs).length = xs.length := encs_length xs
   show (splice cur.toList off (cs.map (Value.int .i64))).take xs.length = _
   rw [splice, e2, show (encs (Value.int .i64) xs ++ s).take off = (encs (Value.int .i64) xs).take off from List.take_append_of_le_length (by omega), show (encs (Value.int .i64) xs ++ s).drop (off + (cs.map (Value.int .i64)).length) = (encs (Value.int .i64) xs).drop (off + (cs.map (Value.int .i64)).length) ++ s from List.drop_append_of_le_length (by rw [List.length_map]; omega)]
   rw [show (encs (Value.int .i64) xs).take off ++ (cs.map (Value.int .i64) ++ ((encs (Value.int .i64) xs).drop (off + (cs.map (Value.int .i64)).length) ++ s)) = ((encs (Value.int .i64) xs).take off ++ (cs.map (Value.int .i64) ++ (encs (Value.int .i64) xs).drop (off + (cs.map (Value.int .i64)).length))) ++ s from by simp only [List.append_assoc]]
   rw [List.take_left' (by simp only [List.length_append, List.length_take, List.length_map, List.length_drop, hE]; omega)]
   simp only [encs, List.map_append, List.map_take, List.map_drop, List.length_map]
theorem impl_putInt.set_copied {out : List Int} {k : Nat} (x : Int) (h : k ≤ out.length) : ((out ++ [0]).take (k + 1) ++ out.drop k).set k x = impl_putInt.insL out k x := by
 have hA : ((out ++ [0]).take (k + 1)).length = k + 1 := by rw [List.length_take, List.length_append, List.length_singleton]; omega
 rw [List.set_eq_take_append_cons_drop, if_pos (by rw [List.length_append, hA]; omega), List.take_append_of_le_length (by omega), List.take_take, Nat.min_eq_left (by omega), List.take_append_of_le_length h, List.drop_left' hA]
 rfl
theorem impl_putInt.copy_splice {P : Program} {w : World} {ops : Array Oper} {rest : List Oper} {o : Oper} {a : Act} {Q : Exit → Act → World → Prop} (hgd : o.guard = none) (d s : Operand) (dT sT : TypeId)
  (ho : o.op = .call { callee := .builtin .copy, args := #[d, s], argTypes := #[dT, sT] }) (elem : TypeId) (hu : P.underlying dT = some (.slice elem)) (hsz : (P.info? elem).map (·.size) = some 1)
  (dp sp : Option Addr) (dLen dCap sLen sCap : Nat) (hd : a.eval d = .slice dp dLen dCap) (hs : a.eval s = .slice sp sLen sCap)
  (g off : Nat) (cur : List Value) (t : TypeId) (hg : w.heap[g]? = some (.cells cur.toArray t (0, 0))) (cs : List Value) (hn : cs.length = Nat.min sLen dLen)
  (hpos : 0 < cs.length → dp = some ⟨g, off, none⟩ ∧ ∃ ad, sp = some ad ∧ ∀ j v, cs[j]? = some v → w.cell? (ad.add j) = some v)
  (hfit : off + cs.length ≤ cur.length) (h1 : ∀ v ∈ cs, v.oneCell' = true) (B : Nat) (w0 : World) (hb : Below B w0 w) (hBg : B ≤ g) (u : World) (S : Nat → Prop) (hk : Kept u w S) (hS : S g ∨ u.heap.size ≤ g)
  (h : ∀ w', Hid (w'.heap[g]? = some (.cells (splice cur off cs).toArray t (0, 0))) → Below B w0 w' → Kept u w' S → wpList P ops Q rest (a.put o.dst (goInt cs.length)) w') :
  wpList P ops Q (o :: rest) a w := by
 by_cases h0 : cs.length = 0
 ·obtain rfl : cs = [] := List.eq_nil_of_length_eq_zero h0
  exact wpList_copy_nothing hgd d s dT sT ho elem hu hsz dp sp dLen dCap sLen sCap hd hs (by simpa using hn.symm) (h w (show _ = _ by simpa [splice] using hg) hb hk)
 obtain ⟨rfl, ad, rfl, hsrc⟩ := hpos (by omega)
 refine wpList_copy_own hgd d s dT sT ho elem hu hsz g off dLen dCap ad sLen sCap hd hs cur.toArray t hg cs hn hsrc (by simpa using hfit) h1 ?_
 refine h _ (show _ = _ by simpa [splice] using setRow_heap w g _ _ t _ hg) (below_setRow hb hBg _) (hk.then_ (S2 := fun k => k = g) ⟨by simp, fun i _ hi => setRow_other w g i _ hi⟩ (fun k e => by rw [e]; exact hS))
set_option maxHeartbeats 8000000 in
set_option maxRecDepth 100000 in
theorem impl_putInt.calls (P0_ : Nat → Prop) (u9000_ : Value) (l0 : List Int) (a1 : Int) (r : List Int) (w0 w : World) (hB : Below w0.heap.size w0 w) (ho0 : Kd.R (Kd.int .i64) 3 w w0.heap.size P0_ u9000_ l0) (h : impl_putInt.f l0 a1 = some r) :
  Calls Try.prog 37 #[u9000_, .int .i64 a1] w fun e w' => ∃ v0_ : Value, e = .returned (v0_) ∧ Kd.R (Kd.int .i64) 3 w' w0.heap.size (fun k_ => (P0_ k_ ∨ w.heap.size ≤ k_)) v0_ r ∧ Below w0.heap.size w0 w' ∧ Kept w w' (fun k_ => P0_ k_) := by
 unfold impl_putInt.f at h
 split at h
 case isTrue => cases h
 case isFalse hni =>
 split at h
 case isFalse => cases h
 case isTrue hn =>
 obtain ⟨kk, hkk⟩ : ∃ kk, kk = impl_putInt.posK a1 l0 l0.length := ⟨_, rfl⟩
 have HKL := Aside0.mk (show kk ≤ l0.length from hkk ▸ impl_putInt.posK_le a1 l0 _)
 have HKK0 := Aside0.mk (show impl_putInt.posK a1 l0 l0.length = kk from hkk.symm)
 rw [← hkk, Option.some.injEq] at h
 have HR1 := Aside0.mk h
 have HNI := Aside0.mk hni
 have HL := Aside0.mk hn
 have HR := Aside0.mk (show Kd.R (Kd.int .i64) 3 w w0.heap.size (fun k_ => (P0_ k_ ∨ w.heap.size ≤ k_)) u9000_ l0 from Kd.R_mono ho0 (fun k_ hk => (.inl hk)))
 have HK := Aside0.mk (Kept.refl w (fun k_ => P0_ k_))
 have HB := Aside0.mk hB
 clear hB ho0 hn h hni hkk
 obtain ⟨A0, c0, e0⟩ := Kd.R_slice HR.out
 subst e0
 go_enter Try.func37, Try.ntmps37
 go_wp2
 go_loopg [5] l0.length (fun q v5 w' => ∃ (j : Int) (n : Nat), v5 = .int .i64 j ∧ Aside0 (j = (n : Int)) ∧ Aside0 (n = q) ∧ Aside0 (n ≤ l0.length) ∧ Aside0 (impl_putInt.posK a1 l0 n = kk) ∧ Aside0 (Kd.R (Kd.int .i64) 3 w' w0.heap.size (fun k_ => (P0_ k_ ∨ w.heap.size ≤ k_)) (.slice A0 l0.length c0) l0) ∧ Aside0 (Kept w w' (fun k_ => P0_ k_)) ∧ Aside0 (Below w0.heap.size w0 w'))
 case atStart => exact ⟨_, l0.length, rfl, ⟨rfl⟩, ⟨rfl⟩, ⟨Nat.le_refl _⟩, HKK0, ⟨bR HR.out⟩, HK, ⟨bw HB.out⟩⟩
 case round =>
  clear HKK0 HB HR HK
  obtain ⟨j, n, rfl, HJ, HN, HNL, HKK, HR, HK, HB⟩ := hrel
  have hj := HJ.out
  cases n with
  | zero =>
   have d1 : decide ((0 : Int) < j) = false := decide_eq_false (by omega)
   have HJK := Aside0.mk (show j = (kk : Int) by have h1 : 0 = kk := HKK.out; omega)
   clear hj
   go_wp2_with (((with_reducible refine gate_builtin (b := .append) (xs := #[.tmp 33, .tmp 34]) rfl ?_); at_builtin; refine Kd.R_append (Kd.int .i64) (w0 := w0) w0.heap.size rfl (.tmp 33) (.tmp 34) 23 3 (.int .i64 0) 8 rfl Try.underlying23 (show (Try.prog.info? 3).map (fun i => (i.zero, i.size, i.bytes)) = some (some (.int .i64 0), 1, 8) from by kernel_rfl) rfl (by decide) (by omega) (.slice A0 l0.length c0) l0 0 [.int .i64 0] (fun k_ => (P0_ k_ ∨ w.heap.size ≤ k_)) (fun _ => False) rfl rfl ?aP (fun _ hk => hk.elim) ?aF ?aO ?aB ?aS ?aL ?_; (case aP => exact rfl); (case aB => exact bw HB.out); (case aF => exact (fun _ hk => .inr (Nat.le_trans HK.out.1 hk))); (case aO => exact (bR HR.out)); (case aS => exact (below_size (bw HB.out))); (case aL => have := HL.out; omega); intro v8 w8 ho hb hg hat; have HR2 := Aside0.mk ho; have HB2 := Aside0.mk hb; have HK2 := Aside0.mk (Kept.of_grown hg (S := fun k_ => P0_ k_) (w := w) HK.out (fun k hk => HR.out.1 k hk)); clear ho hb hg hat HR HB HK; obtain ⟨A2, c2, e2⟩ := Kd.R_slice HR2.out; subst e2))
   obtain ⟨hj_⟩ := HJK
   subst hj_
   obtain ⟨go, c3, e3_, gb, gl, HG⟩ := Kd.R_form HR2.out (by simp)
   have ec_ : c2 = c3 := by injection e3_
   have eA_ : A2 = some ⟨go, 0, none⟩ := by injection e3_
   subst ec_ eA_
   clear e3_
   have HS_ := Aside0.mk (show P0_ go ∨ w.heap.size ≤ go from HR2.out.1 go rfl)
   have HFC := Aside0.mk (show l0.length + 1 ≤ c2 from by have := (Kd.R_reads' HR2.out).2.1; simpa using this)
   have HG_ := Aside0.mk HG
   have HGB := Aside0.mk gb
   clear HG gb gl
   have u1 : wrap64 ((kk : Int) + 1) = (kk : Int) + 1 := by have := HKL.out; have := HL.out; unfold wrap64; omega
   have u2 : IntKind.i64.wrap ((kk : Int) + 1) = (kk : Int) + 1 := (i64_w _).trans u1
   have v1 : 0 ≤ (kk : Int) + 1 := by omega
   have v2 : (kk : Int) + 1 ≤ (l0.length : Int) + 1 := by have := HKL.out; omega
   have v3 : (kk : Int) ≤ (l0.length : Int) + 1 := by have := HKL.out; omega
   have v4 : 0 ≤ (kk : Int) := by omega
   have v5 : kk ≤ l0.length := HKL.out
   have v6 : ¬ c2 = kk := by have := HKL.out; have := HFC.out; omega
   have v7 : ((kk : Int) + 1).toNat = kk + 1 := by omega
   go_still_tail 7, (show Try.prog.follows .mixedOrders = true from by rfl)
   obtain ⟨cur, hcur, hgo, hcl, hcopy⟩ := impl_putInt.sort_copied HR2.out (by simp)
   have HCP := Aside0.mk hcopy
   clear hcopy
   refine impl_putInt.copy_splice rfl (.tmp 39) (.tmp 42) 23 23 rfl 3 Try.underlying23 (by kernel_rfl) (if c2 = kk + 1 then some ⟨go, 0, none⟩ else some ⟨go, kk + 1, none⟩) (some ⟨go, kk, none⟩) (l0.length - kk) (c2 - (kk + 1)) (l0.length + 1 - kk) (c2 - kk) rfl rfl go (kk + 1) cur 3 hcur ((l0.drop kk).map (Value.int .i64)) ?cn ?cp ?cf ?c1 w0.heap.size w0 ?cb hgo w (fun k_ => P0_ k_) ?ck HS_.out ?_
   case cn => rw [List.length_map, List.length_drop]; exact (Nat.min_eq_right (by omega)).symm
   case cp =>
    intro hpos
    have hpos' : kk < l0.length := by simp at hpos; omega
    have := HFC.out
    refine ⟨if_neg (by omega), ⟨go, kk, none⟩, rfl, fun j v hj => ?_⟩
    rw [List.getElem?_map, List.getElem?_drop] at hj
    obtain ⟨y, hy, rfl⟩ := Option.map_eq_some_iff.mp hj
    have hlt := (List.getElem?_eq_some_iff.mp hy).1
    have hc8 := (Kd.R_celln 0 HR2.out ((kk + j : Nat) : Int) (by omega) (by rw [List.length_append, List.length_singleton]; omega)).1
    rw [Int.toNat_natCast, show rdOf 0 (l0 ++ [0]) ((kk + j : Nat) : Int) = y from by unfold rdOf; rw [Int.toNat_natCast, List.getD_eq_getElem?_getD, List.getElem?_append_left hlt, hy]; rfl] at hc8
    rw [show (⟨go, kk, none⟩ : Addr).add j = ⟨go, kk + j, none⟩ from by first | rfl | (simp only [add_plain]; done) | simp [Addr.add]]
    first | exact hc8 | (show (w8.drewN 1).cell? _ = _; simpa using hc8)
   case cf => simp; simp at hcl; omega
   case c1 => intro v hv; obtain ⟨y, _, rfl⟩ := List.mem_map.mp hv; rfl
   case cb => first | exact pw_below_drewN HB2.out 1 | exact bw HB2.out
   case ck => first | exact HK2.out | exact Kept.drewN HK2.out 1
   intro w9 hg9 hb9 hk9
   have HR9 := Aside0.mk (HCP.out (l0.drop kk) (kk + 1) w9 (by simp; omega) hg9)
   have HB9 := Aside0.mk hb9
   have HK9 := Aside0.mk hk9
   clear hg9 hb9 hk9 HCP hcur HR2 HB2 HK2 hcl
   generalize (if c2 = kk + 1 then some (⟨go, 0, none⟩ : Addr) else some ⟨go, kk + 1, none⟩) = A37
   have hkl := HKL.out
   have HR10 := Aside0.mk (show Kd.R (Kd.int .i64) 3 w9 w0.heap.size (fun k_ => (P0_ k_ ∨ w.heap.size ≤ k_)) (.slice (some ⟨go, 0, none⟩) (l0.length + 1) c2) ((l0 ++ [0]).take (kk + 1) ++ l0.drop kk) from by
    have := HR9.out
    rw [List.length_drop, show List.drop (kk + 1 + (l0.length - kk)) (l0 ++ [0]) = [] from List.drop_of_length_le (by rw [List.length_append, List.length_singleton]; omega), List.append_nil, List.length_append, List.length_singleton] at this
    exact this)
   clear HR9
   obtain ⟨hy, hz⟩ := Kd.R_celln 0 HR10.out (kk : Int) v4 (by omega)
   have HP10 := Kd.R_putg HR10.out (kk : Int) a1
   rw [Int.toNat_natCast] at hy hz HP10
   have w1_ : (kk : Int) < (l0.length : Int) + 1 := by omega
   clear hkl
   go_wp2_with ((with_reducible refine gate_store (t := 3) (p := 47) rfl ?_); refine store_event (t := 3) (p := 47) (v := ?vo_w78) (w1 := (w9.setCell ⟨go, kk, none⟩ (.int .i64 a1))) ?hg ?ho ?hn ?hr ?_; (case ho => rfl); (case hg => rfl); (case hn => rfl); (case hr => first | (go_simp; done) | (go_simp; rfl)); intro w10 hw; have HR11 := Aside0.mk (show Kd.R (Kd.int .i64) 3 w10 w0.heap.size (fun k_ => (P0_ k_ ∨ w.heap.size ≤ k_)) (.slice (some ⟨go, 0, none⟩) (l0.length + 1) c2) (((l0 ++ [0]).take (kk + 1) ++ l0.drop kk).set kk a1) from (by rw [hw]; exact HP10.1)); have HB11 := Aside0.mk ((by rw [hw]; exact below_set HB9.out hgo : Below w0.heap.size w0 w10)); have HK11 := Aside0.mk ((by rw [hw]; exact Kept.setCell HK9.out HS_.out _ : Kept w w10 (fun k_ => P0_ k_))); clear HP10 hw HR10 HB9 HK9)
   clear hy hz
   try go_wp2
   all_goals (go_ret; exact ⟨_, rfl, by rw [← HR1.out]; have h1 := HR11.out; rw [impl_putInt.set_copied a1 HKL.out] at h1; exact h1, HB11.out, HK11.out⟩)
  | succ m =>
   have hml : m < l0.length := HNL.out
   have d1 : decide ((0 : Int) < j) = true := decide_eq_true (by omega)
   have d2 : (0 < j) = True := eq_true (by omega)
   have w1 : wrap64 (j - 1) = (m : Int) := by have := HL.out; unfold wrap64; omega
   have w2 : IntKind.i64.wrap (j - 1) = (m : Int) := (i64_w _).trans w1
   have p2 : 0 ≤ (m : Int) := by omega
   have q2 : (m : Int) < (l0.length : Int) := by omega
   have d1n : decide (m < l0.length) = true := decide_eq_true hml
   have q2n := eq_true hml
   have p2b := eq_true p2
   have q2b := eq_true q2
   obtain ⟨ad, ea, hxc⟩ := Kd.at_int (Kd.R_reads' HR.out).2.2 (m : Int) p2 q2
   have hx0 : rd l0 (m : Int) = l0.getD m 0 := by simp only [rd, Int.toNat_natCast]
   have hmem : l0.getD m 0 ∈ l0 := by
    rw [List.getD_eq_getElem?_getD, List.getElem?_eq_getElem hml]
    exact List.getElem_mem _
   obtain ⟨y, hy⟩ : ∃ y, y = l0.getD m 0 := ⟨_, rfl⟩
   have hkk := HKK.out
   rw [impl_putInt.posK, ← hy] at hkk
   rw [hx0, ← hy, Int.toNat_natCast] at hxc
   rw [← hy] at hmem
   cases ea
   by_cases hgt : y > a1
   ·have d3 : decide (a1 < y) = true := decide_eq_true hgt
    have hgb := eq_true hgt
    rw [if_pos hgt] at hkk
    have HKK2 := Aside0.mk hkk
    have HM := Aside0.mk (show gk = m + 1 from HN.out.symm)
    have HML := Aside0.mk (show m ≤ l0.length from Nat.le_of_lt hml)
    clear hkk hgt hmem hx0 hml p2 q2 hy hj
    go_wp2
    go_roundg m
    case measure => rw [HM.out]; exact Nat.lt_succ_self _
    case rel => exact ⟨_, m, rfl, ⟨rfl⟩, ⟨rfl⟩, HML, HKK2, ⟨bR HR.out⟩, HK, ⟨bw HB.out⟩⟩
   have d3 : decide (a1 < y) = false := decide_eq_false hgt
   have hgb := eq_false hgt
   have hne : y ≠ a1 := by
    rintro rfl
    exact HNI.out hmem
   have d4 : decide (y = a1) = false := decide_eq_false hne
   have d5 : (y == a1) = false := by simpa using hne
   have hneb := eq_false hne
   rw [if_neg hgt] at hkk
   have HJK := Aside0.mk (show j = (kk : Int) by omega)
   clear hgt hmem hx0 hml p2 q2 hy hne hj hkk
   go_wp2_with (((with_reducible refine gate_builtin (b := .append) (xs := #[.tmp 33, .tmp 34]) rfl ?_); at_builtin; refine Kd.R_append (Kd.int .i64) (w0 := w0) w0.heap.size rfl (.tmp 33) (.tmp 34) 23 3 (.int .i64 0) 8 rfl Try.underlying23 (show (Try.prog.info? 3).map (fun i => (i.zero, i.size, i.bytes)) = some (some (.int .i64 0), 1, 8) from by kernel_rfl) rfl (by decide) (by omega) (.slice (some ad) l0.length c0) l0 0 [.int .i64 0] (fun k_ => (P0_ k_ ∨ w.heap.size ≤ k_)) (fun _ => False) rfl rfl ?aP (fun _ hk => hk.elim) ?aF ?aO ?aB ?aS ?aL ?_; (case aP => exact rfl); (case aB => exact bw HB.out); (case aF => exact (fun _ hk => .inr (Nat.le_trans HK.out.1 hk))); (case aO => exact (bR HR.out)); (case aS => exact (below_size (bw HB.out))); (case aL => have := HL.out; omega); intro v8 w8 ho hb hg hat; have HR2 := Aside0.mk ho; have HB2 := Aside0.mk hb; have HK2 := Aside0.mk (Kept.of_grown hg (S := fun k_ => P0_ k_) (w := w) HK.out (fun k hk => HR.out.1 k hk)); clear ho hb hg hat HR HB HK; obtain ⟨A2, c2, e2⟩ := Kd.R_slice HR2.out; subst e2))
   obtain ⟨hj_⟩ := HJK
   subst hj_
   obtain ⟨go, c3, e3_, gb, gl, HG⟩ := Kd.R_form HR2.out (by simp)
   have ec_ : c2 = c3 := by injection e3_
   have eA_ : A2 = some ⟨go, 0, none⟩ := by injection e3_
   subst ec_ eA_
   clear e3_
   have HS_ := Aside0.mk (show P0_ go ∨ w.heap.size ≤ go from HR2.out.1 go rfl)
   have HFC := Aside0.mk (show l0.length + 1 ≤ c2 from by have := (Kd.R_reads' HR2.out).2.1; simpa using this)
   have HG_ := Aside0.mk HG
   have HGB := Aside0.mk gb
   clear HG gb gl
   have u1 : wrap64 ((kk : Int) + 1) = (kk : Int) + 1 := by have := HKL.out; have := HL.out; unfold wrap64; omega
   have u2 : IntKind.i64.wrap ((kk : Int) + 1) = (kk : Int) + 1 := (i64_w _).trans u1
   have v1 : 0 ≤ (kk : Int) + 1 := by omega
   have v2 : (kk : Int) + 1 ≤ (l0.length : Int) + 1 := by have := HKL.out; omega
   have v3 : (kk : Int) ≤ (l0.length : Int) + 1 := by have := HKL.out; omega
   have v4 : 0 ≤ (kk : Int) := by omega
   have v5 : kk ≤ l0.length := HKL.out
   have v6 : ¬ c2 = kk := by have := HKL.out; have := HFC.out; omega
   have v7 : ((kk : Int) + 1).toNat = kk + 1 := by omega
   go_still_tail 7, (show Try.prog.follows .mixedOrders = true from by rfl)
   obtain ⟨cur, hcur, hgo, hcl, hcopy⟩ := impl_putInt.sort_copied HR2.out (by simp)
   have HCP := Aside0.mk hcopy
   clear hcopy
   refine impl_putInt.copy_splice rfl (.tmp 39) (.tmp 42) 23 23 rfl 3 Try.underlying23 (by kernel_rfl) (if c2 = kk + 1 then some ⟨go, 0, none⟩ else some ⟨go, kk + 1, none⟩) (some ⟨go, kk, none⟩) (l0.length - kk) (c2 - (kk + 1)) (l0.length + 1 - kk) (c2 - kk) rfl rfl go (kk + 1) cur 3 hcur ((l0.drop kk).map (Value.int .i64)) ?cn ?cp ?cf ?c1 w0.heap.size w0 ?cb hgo w (fun k_ => P0_ k_) ?ck HS_.out ?_
   case cn => rw [List.length_map, List.length_drop]; exact (Nat.min_eq_right (by omega)).symm
   case cp =>
    intro hpos
    have hpos' : kk < l0.length := by simp at hpos; omega
    have := HFC.out
    refine ⟨if_neg (by omega), ⟨go, kk, none⟩, rfl, fun j v hj => ?_⟩
    rw [List.getElem?_map, List.getElem?_drop] at hj
    obtain ⟨y, hy, rfl⟩ := Option.map_eq_some_iff.mp hj
    have hlt := (List.getElem?_eq_some_iff.mp hy).1
    have hc8 := (Kd.R_celln 0 HR2.out ((kk + j : Nat) : Int) (by omega) (by rw [List.length_append, List.length_singleton]; omega)).1
    rw [Int.toNat_natCast, show rdOf 0 (l0 ++ [0]) ((kk + j : Nat) : Int) = y from by unfold rdOf; rw [Int.toNat_natCast, List.getD_eq_getElem?_getD, List.getElem?_append_left hlt, hy]; rfl] at hc8
    rw [show (⟨go, kk, none⟩ : Addr).add j = ⟨go, kk + j, none⟩ from by first | rfl | (simp only [add_plain]; done) | simp [Addr.add]]
    first | exact hc8 | (show (w8.drewN 1).cell? _ = _; simpa using hc8)
   case cf => simp; simp at hcl; omega
   case c1 => intro v hv; obtain ⟨y, _, rfl⟩ := List.mem_map.mp hv; rfl
   case cb => first | exact pw_below_drewN HB2.out 1 | exact bw HB2.out
   case ck => first | exact HK2.out | exact Kept.drewN HK2.out 1
   intro w9 hg9 hb9 hk9
   have HR9 := Aside0.mk (HCP.out (l0.drop kk) (kk + 1) w9 (by simp; omega) hg9)
   have HB9 := Aside0.mk hb9
   have HK9 := Aside0.mk hk9
   clear hg9 hb9 hk9 HCP hcur HR2 HB2 HK2 hcl
   generalize (if c2 = kk + 1 then some (⟨go, 0, none⟩ : Addr) else some ⟨go, kk + 1, none⟩) = A37
   have hkl := HKL.out
   have HR10 := Aside0.mk (show Kd.R (Kd.int .i64) 3 w9 w0.heap.size (fun k_ => (P0_ k_ ∨ w.heap.size ≤ k_)) (.slice (some ⟨go, 0, none⟩) (l0.length + 1) c2) ((l0 ++ [0]).take (kk + 1) ++ l0.drop kk) from by
    have := HR9.out
    rw [List.length_drop, show List.drop (kk + 1 + (l0.length - kk)) (l0 ++ [0]) = [] from List.drop_of_length_le (by rw [List.length_append, List.length_singleton]; omega), List.append_nil, List.length_append, List.length_singleton] at this
    exact this)
   clear HR9
   obtain ⟨hy, hz⟩ := Kd.R_celln 0 HR10.out (kk : Int) v4 (by omega)
   have HP10 := Kd.R_putg HR10.out (kk : Int) a1
   rw [Int.toNat_natCast] at hy hz HP10
   have w1_ : (kk : Int) < (l0.length : Int) + 1 := by omega
   clear hkl
   go_wp2_with ((with_reducible refine gate_store (t := 3) (p := 47) rfl ?_); refine store_event (t := 3) (p := 47) (v := ?vo_w78) (w1 := (w9.setCell ⟨go, kk, none⟩ (.int .i64 a1))) ?hg ?ho ?hn ?hr ?_; (case ho => rfl); (case hg => rfl); (case hn => rfl); (case hr => first | (go_simp; done) | (go_simp; rfl)); intro w10 hw; have HR11 := Aside0.mk (show Kd.R (Kd.int .i64) 3 w10 w0.heap.size (fun k_ => (P0_ k_ ∨ w.heap.size ≤ k_)) (.slice (some ⟨go, 0, none⟩) (l0.length + 1) c2) (((l0 ++ [0]).take (kk + 1) ++ l0.drop kk).set kk a1) from (by rw [hw]; exact HP10.1)); have HB11 := Aside0.mk ((by rw [hw]; exact below_set HB9.out hgo : Below w0.heap.size w0 w10)); have HK11 := Aside0.mk ((by rw [hw]; exact Kept.setCell HK9.out HS_.out _ : Kept w w10 (fun k_ => P0_ k_))); clear HP10 hw HR10 HB9 HK9)
   clear hy hz
   try go_wp2
   all_goals (go_ret; exact ⟨_, rfl, by rw [← HR1.out]; have h1 := HR11.out; rw [impl_putInt.set_copied a1 HKL.out] at h1; exact h1, HB11.out, HK11.out⟩)

/-! ### impl_copyInts: function 38 -/
def impl_copyInts.f (l0 : List Int) : Option (List Int) := (some (([] : List Int) : List Int)).bind fun y318 => (if y318.length + l0.length < 17592186044416 then (some (y318 ++ l0)) else (none))
set_option maxHeartbeats 8000000 in
set_option maxRecDepth 100000 in
theorem impl_copyInts.calls (A0 : Option Addr) (c0 : Nat) (l0 : List Int) (r : List Int) (w : World) (hr0 : Kd.C (Kd.int .i64) w A0 l0.length l0) (hc0 : l0.length ≤ c0) (h : impl_copyInts.f l0 = some r) :
  Calls Try.prog 38 #[.slice A0 l0.length c0] w fun e w' => ∃ v0_ : Value, e = .returned (v0_) ∧ Kd.R (Kd.int .i64) 3 w' w.heap.size (fun _ => True) v0_ r ∧ Below w.heap.size w w' := by
 have HR0 := Aside0.mk hr0
 have HC0 := Aside0.mk hc0
 clear hr0 hc0
 have HB := Aside0.mk (Below.refl w.heap.size w)
 have H : ((some (([] : List Int) : List Int)).bind fun y318 => (if y318.length + l0.length < 17592186044416 then (some (y318 ++ l0)) else (none))) = some r := h
 clear h
 obtain ⟨y318, hy318⟩ : ∃ y_ : List Int, y_ = (([] : List Int)) := ⟨_, rfl⟩
 replace H : (if y318.length + l0.length < 17592186044416 then (some (y318 ++ l0)) else (none)) = some r := by first | (rw [hy318]; with_reducible exact H) | (have H2_ := (Option.bind_some _ _).symm.trans H; rw [hy318]; with_reducible exact H2_) | (have H2_ := (Option.bind_some _ _).symm.trans H; with_reducible exact H2_) | with_reducible exact H | (rw [hy318]; exact H) | exact H
 have Ny318 := Aside0.mk hy318
 clear hy318
 by_cases c2 : y318.length + l0.length < 17592186044416
 rotate_left
 ·rw [if_neg c2] at H
  exact absurd H (by simp)
 rw [if_pos c2] at H
 have LMc2 := Aside0.mk c2
 clear c2
 obtain ⟨y321, hy321⟩ : ∃ y_ : List Int, y_ = (y318 ++ l0) := ⟨_, rfl⟩
 replace H : (some y321) = some r := by first | (rw [hy321]; with_reducible exact H) | (have H2_ := (Option.bind_some _ _).symm.trans H; rw [hy321]; with_reducible exact H2_) | (have H2_ := (Option.bind_some _ _).symm.trans H; with_reducible exact H2_) | with_reducible exact H | (rw [hy321]; exact H) | exact H
 have Ny321 := Aside0.mk hy321
 clear hy321
 obtain rfl := Option.some.inj H
 go_enter Try.func38, Try.ntmps38
 go_wp2_with (first | ((with_reducible refine gate_dst (N := 3) rfl ?_); refine Kd.R_lit (Kd.int .i64) _ 3 ?hg (N := 3) ?hd (xs := ([] : List Int)) (inner := []) (ok := fun _ => True) (okp := fun _ => True) ?hr ?hp (fun _ hk => hk) trivial (Below.refl _ _) (Nat.le_refl _) (by simp) ?_; (case hd => rfl); (case hg => rfl); (case hr => first | (go_simp; done) | (go_simp; rfl)); (case hp => exact (Reps.none _ _)); intro v319 w3 ho4 hb hg_ hnew_; clear hg_ hnew_; (first | rw [← Ny318.out] at ho4 | (simp only [Int.reduceToNat] at ho4; rw [← Ny318.out] at ho4)); have n0_ := Aside0.mk (Kd.R_lower ho4 (below_size (bw HB.out))); have n1_ := Aside0.mk (below_step (bw HB.out) hb); have HO320 := n0_; replace HB := n1_; clear n0_ n1_; clear hb ho4) | ((with_reducible refine gate_builtin (b := .append) (xs := #[.tmp 3, .tmp 4]) rfl ?_); at_builtin; refine Kd.R_append_rows (Kd.int .i64) (w0 := w) w.heap.size rfl (.tmp 3) (.tmp 4) 23 3 (.int .i64 0) 8 rfl Try.underlying23 info3 rfl (by decide) (by omega) v319 y318 l0 _ _ _ (fun _ => True) (fun _ => False) rfl rfl ?aO ?aR (fun _ _ h => h) (fun _ h => h.elim) ?aF ?aB ?aS ?aL ?_; (case aR => first | exact bC HR0.out HB.out | exact Kd.C_below HR0.out HB.out); (case aB => exact (bw HB.out)); (case aF => exact (fun _ _ => trivial)); (case aO => exact (bR HO320.out)); (case aS => exact (below_size (bw HB.out))); (case aL => have := LMc2.out; omega); intro v322 w5 ho hb hg hat; rw [← Ny321.out] at ho; have n0_ := Aside0.mk (hb); have n1_ := Aside0.mk (ho); clear HO320; replace HB := n0_; have HO323 := n1_; clear n0_ n1_; clear ho hb hg hat))
 go_ret
 exact ⟨_, by first | rfl | (simp [errW_none, errW_some] <;> rfl) | (simp [*, errW_none, errW_some] <;> rfl), by (with_reducible repeat (first | apply Kd.R_alloc | apply Kd.R_drewN | apply Kd.R_drew)); exact HO323.out, bw HB.out⟩

/-! ### impl_without: function 39 -/
def impl_without.l0 : Nat → Int → List Int → List Int → Int → Int → Option (List Int)
 | 0, _, _, _, _, _ => none
 | k + 1, x1, x5, x8, x9, x10 => if x10 < x9 then (if 0 ≤ x10 then (if x10 < (x8.length : Int) then (if (rd x8 x10) = x1 then (impl_without.l0 k x1 x5 x8 x9 (wrap64 (x10 + 1))) else (if x5.length < 17592186044416 then (impl_without.l0 k x1 (x5 ++ [rd x8 x10]) x8 x9 (wrap64 (x10 + 1))) else (none))) else (none)) else (none)) else (some x5)
def impl_without.f (k : Nat) (l0 : List Int) (a1 : Int) : Option (List Int) := impl_without.l0 k a1 ([] : List Int) l0 (l0.length : Int) 0
theorem impl_without.mono_l : ∀ k, (∀ y0 y1 y2 y3 y4, LeO (impl_without.l0 k y0 y1 y2 y3 y4) (impl_without.l0 (k + 1) y0 y1 y2 y3 y4))
 | 0 => fun _ _ _ _ _ r h => by simp [impl_without.l0] at h
 | k + 1 => by
  have ih0 := impl_without.mono_l k
  ·intro y0 y1 y2 y3 y4
   unfold impl_without.l0
   repeat' first
   | (with_reducible exact ih0 _ _ _ _ _)
   | (with_reducible exact LeO.refl _)
   | (with_reducible exact LeO.none _)
   | (with_reducible refine LeO.ite ?_ ?_)
   | (with_reducible refine LeO.bind ?_ (fun _ => ?_))
   | exact ih0 _ _ _ _ _
   | exact LeO.none _
   | refine LeO.ite ?_ ?_
   | refine LeO.bind ?_ (fun _ => ?_)
theorem impl_without.mono : ∀ a0 a1 k, LeO (impl_without.f k a0 a1) (impl_without.f (k + 1) a0 a1) := by
 intro a0 a1 k
 have ih0 := impl_without.mono_l k
 unfold impl_without.f
 repeat' first
   | (with_reducible exact ih0 _ _ _ _ _)
   | (with_reducible exact LeO.refl _)
   | (with_reducible exact LeO.none _)
   | (with_reducible refine LeO.ite ?_ ?_)
   | (with_reducible refine LeO.bind ?_ (fun _ => ?_))
   | exact ih0 _ _ _ _ _
   | exact LeO.none _
   | refine LeO.ite ?_ ?_
   | refine LeO.bind ?_ (fun _ => ?_)
set_option maxHeartbeats 8000000 in
set_option maxRecDepth 100000 in
theorem impl_without.calls (k : Nat) (A0 : Option Addr) (c0 : Nat) (l0 : List Int) (a1 : Int) (r : List Int) (w : World) (hr0 : Kd.C (Kd.int .i64) w A0 l0.length l0) (hc0 : l0.length ≤ c0) (h : impl_without.f k l0 a1 = some r) :
  Calls Try.prog 39 #[.slice A0 l0.length c0, .int .i64 a1] w fun e w' => ∃ v0_ : Value, e = .returned (v0_) ∧ Kd.R (Kd.int .i64) 3 w' w.heap.size (fun _ => True) v0_ r ∧ Below w.heap.size w w' := by
 have HR0 := Aside0.mk hr0
 have HC0 := Aside0.mk hc0
 clear hr0 hc0
 have HB := Aside0.mk (Below.refl w.heap.size w)
 have H : (impl_without.l0 k a1 ([] : List Int) l0 (l0.length : Int) 0) = some r := h
 clear h
 have H' := Aside0.mk H
 clear H
 go_enter Try.func39, Try.ntmps39
 go_wp2
 go_loopg [5, 10] k (fun kq v5 v10 w' => ∃ (x5_1 : List Int) (x10_1 : Int), v10 = .int .i64 x10_1 ∧ Aside0 (impl_without.l0 kq a1 x5_1 l0 (l0.length : Int) x10_1 = some r) ∧ Aside0 (kq ≤ k) ∧ Aside0 (Kd.R (Kd.int .i64) 3 w' w.heap.size (fun _ => True) v5 x5_1) ∧ Aside0 (Below w.heap.size w w'))
 case atStart => exact ⟨(([] : List Int)), (0), (by first | rfl | (simp; done) | (simp [*]; done)), H', ⟨Nat.le_refl _⟩, ⟨by first | exact Kd.R_nil _ _ _ _ _ | exact Kd.N_nil _ _ _ _ _ | exact Kd.V_nil _ _ _ _ _ | exact Kd.Q_nil _ _ _ _ _ | exact Kd.S_nil _ _ _ _ _⟩, ⟨bw HB.out⟩⟩
 case round =>
  clear H'
  try clear p2
  obtain ⟨x5_1, x10_1, rfl, HA, HK1, HO_5, HB⟩ := hrel
  cases gk with
  | zero => exact absurd HA.out (by simp [impl_without.l0])
  | succ k1 =>
   have H := HA.out
   clear HA
   simp only [impl_without.l0] at H
   by_cases c3 : x10_1 < (l0.length : Int)
   rotate_left
   ·rw [if_neg c3] at H
    have c3b0 : decide (x10_1 < (l0.length : Int)) = false := decide_eq_false c3
    clear c3
    obtain rfl := Option.some.inj H
    go_wp2
    go_ret
    exact ⟨_, by first | rfl | (simp [errW_none, errW_some] <;> rfl) | (simp [*, errW_none, errW_some] <;> rfl), by (with_reducible repeat (first | apply Kd.R_alloc | apply Kd.R_drewN | apply Kd.R_drew)); exact HO_5.out, bw HB.out⟩
   rw [if_pos c3] at H
   have c3b0 : decide (x10_1 < (l0.length : Int)) = true := decide_eq_true c3
   clear c3
   by_cases c4 : 0 ≤ x10_1
   rotate_left
   ·rw [if_neg c4] at H
    exact absurd H (by simp)
   rw [if_pos c4] at H
   have c4b0 : decide (0 ≤ x10_1) = true := decide_eq_true c4
   clear c4
   by_cases c5 : x10_1 < (l0.length : Int)
   rotate_left
   ·rw [if_neg c5] at H
    exact absurd H (by simp)
   rw [if_pos c5] at H
   have c5b0 : decide (x10_1 < (l0.length : Int)) = true := decide_eq_true c5
   clear c5
   by_cases c6 : (rd l0 x10_1) = a1
   ·rw [if_pos c6] at H
    have c6b0 : ((rd l0 x10_1) == a1) = true := beq_iff_eq.mpr c6
    have c6b1 : ((rd l0 x10_1) != a1) = false := bne_eq_false_iff_eq.mpr c6
    clear c6
    have H' := Aside0.mk H
    clear H
    have p324 : 0 ≤ (x10_1 : Int) := of_decide_eq_true (by first | (with_reducible assumption) | assumption)
    have q324 : x10_1 < (l0.length : Int) := of_decide_eq_true (by first | (with_reducible assumption) | assumption)
    obtain ⟨ad324, e324, hx324_0⟩ := Kd.at_int HR0.out x10_1 p324 q324
    cases e324
    replace hx324_0 := (HB.out.cell (World.block_lt_of_cell? w _ hx324_0)).trans hx324_0
    replace p324 := eq_true p324
    replace q324 := eq_true q324
    go_wp2
    go_roundg k1
    case measure => have := HK1.out; omega
    case rel => exact ⟨(x5_1), (wrap64 (x10_1 + 1)), (by first | rfl | (simp; done) | (simp [*]; done)), H', ⟨by have := HK1.out; omega⟩, ⟨bR HO_5.out⟩, ⟨bw HB.out⟩⟩
   rw [if_neg c6] at H
   have c6b0 : ((rd l0 x10_1) == a1) = false := beq_eq_false_iff_ne.mpr c6
   have c6b1 : ((rd l0 x10_1) != a1) = true := bne_iff_ne.mpr c6
   by_cases c7 : x5_1.length < 17592186044416
   rotate_left
   ·rw [if_neg c7] at H
    exact absurd H (by simp)
   rw [if_pos c7] at H
   have LMc7 := Aside0.mk c7
   clear c7
   obtain ⟨y325, hy325⟩ : ∃ y_ : List Int, y_ = (x5_1 ++ [rd l0 x10_1]) := ⟨_, rfl⟩
   replace H : (impl_without.l0 k1 a1 y325 l0 (l0.length : Int) (wrap64 (x10_1 + 1))) = some r := by first | (rw [hy325]; with_reducible exact H) | (have H2_ := (Option.bind_some _ _).symm.trans H; rw [hy325]; with_reducible exact H2_) | (have H2_ := (Option.bind_some _ _).symm.trans H; with_reducible exact H2_) | with_reducible exact H | (rw [hy325]; exact H) | exact H
   have Ny325 := Aside0.mk hy325
   clear hy325
   have H' := Aside0.mk H
   clear H
   have p324 : 0 ≤ (x10_1 : Int) := of_decide_eq_true (by first | (with_reducible assumption) | assumption)
   have q324 : x10_1 < (l0.length : Int) := of_decide_eq_true (by first | (with_reducible assumption) | assumption)
   obtain ⟨ad324, e324, hx324_0⟩ := Kd.at_int HR0.out x10_1 p324 q324
   cases e324
   replace hx324_0 := (HB.out.cell (World.block_lt_of_cell? w _ hx324_0)).trans hx324_0
   replace p324 := eq_true p324
   replace q324 := eq_true q324
   go_wp2_with (first | ((with_reducible refine gate_builtin (b := .append) (xs := #[.tmp 17, .tmp 19]) rfl ?_); at_builtin; refine Kd.R_append (Kd.int .i64) (w0 := w) w.heap.size rfl (.tmp 17) (.tmp 19) 23 3 (.int .i64 0) 8 rfl Try.underlying23 info3 rfl (by decide) (by omega) u5 x5_1 (rd l0 x10_1) [.int .i64 (rd l0 x10_1)] (fun _ => True) (fun _ => False) rfl rfl ?aP (fun _ hk => hk.elim) ?aF ?aO ?aB ?aS ?aL ?_; (case aP => exact rfl); (case aB => exact (bw HB.out)); (case aF => exact (fun _ _ => trivial)); (case aO => exact (bR HO_5.out)); (case aS => exact (below_size (bw HB.out))); (case aL => have := LMc7.out; omega); intro v326 w8 ho hb hg hat; rw [← Ny325.out] at ho; have n0_ := Aside0.mk (hb); have n1_ := Aside0.mk (ho); clear HO_5; replace HB := n0_; have HO327 := n1_; clear n0_ n1_; clear ho hb hg hat))
   go_roundg k1
   case measure => have := HK1.out; omega
   case rel => exact ⟨(y325), (wrap64 (x10_1 + 1)), (by first | rfl | (simp; done) | (simp [*]; done)), H', ⟨by have := HK1.out; omega⟩, ⟨bR HO327.out⟩, ⟨bw HB.out⟩⟩

/-! ### impl_UnitCircuit: function 16 -/
mutual
def impl_UnitCircuit.j0 : Nat → List (S43) → List Int → Int → Bool → Option (List Int × Bool)
 | 0, _, _, _, _ => none
 | k + 1, x0, x1, x2, x39 => if x39 = true then (some (([] : List Int), false)) else ((impl_copyInts.f x1).bind fun t333 => ((impl_putInt.f t333 x2).bind fun t336 => ((impl_onTime.f x0 t336).bind fun t339 => (if t339 = true then (some (([] : List Int), false)) else (impl_UnitCircuit.l0 k x0 x2 t336 ([] : List Int) t336 (t336.length : Int) 0)))))
def impl_UnitCircuit.l0 : Nat → List (S43) → Int → List Int → List Int → List Int → Int → Int → Option (List Int × Bool)
 | 0, _, _, _, _, _, _, _ => none
 | k + 1, x0, x2, x8, x9, x47, x48, x49 => if x49 < x48 then (if 0 ≤ x49 then (if x49 < (x47.length : Int) then (if (rd x47 x49) = x2 then (if x9.length < 17592186044416 then (impl_UnitCircuit.l0 k x0 x2 x8 (x9 ++ [rd x47 x49]) x47 x48 (wrap64 (x49 + 1))) else (none)) else ((impl_without.f k x8 (rd x47 x49)).bind fun t344 => ((impl_onTime.f x0 t344).bind fun t347 => (if t347 = true then (if x9.length < 17592186044416 then (impl_UnitCircuit.l0 k x0 x2 x8 (x9 ++ [rd x47 x49]) x47 x48 (wrap64 (x49 + 1))) else (none)) else (impl_UnitCircuit.l0 k x0 x2 x8 x9 x47 x48 (wrap64 (x49 + 1))))))) else (none)) else (none)) else (some (x9, true))
end
def impl_UnitCircuit.f (k : Nat) (l0 : List (S43)) (l1 : List Int) (a2 : Int) : Option (List Int × Bool) := (impl_areUnit.f k l0).bind fun t328 => (if t328 = true then ((impl_isSet.f k (l0.length : Int) l1).bind fun t329 => (if t329 = true then ((impl_onTime.f l0 l1).bind fun t330 => (if t330 = true then ((impl_isNumber.f a2 (l0.length : Int)).bind fun t331 => (if t331 = true then ((impl_has.f k l1 a2).bind fun t332 => (impl_UnitCircuit.j0 k l0 l1 a2 t332)) else (impl_UnitCircuit.j0 k l0 l1 a2 true))) else (impl_UnitCircuit.j0 k l0 l1 a2 true))) else (impl_UnitCircuit.j0 k l0 l1 a2 true))) else (impl_UnitCircuit.j0 k l0 l1 a2 true))
theorem impl_UnitCircuit.mono_l : ∀ k, (∀ y0 y1 y2 y3, LeO (impl_UnitCircuit.j0 k y0 y1 y2 y3) (impl_UnitCircuit.j0 (k + 1) y0 y1 y2 y3)) ∧ (∀ y0 y1 y2 y3 y4 y5 y6, LeO (impl_UnitCircuit.l0 k y0 y1 y2 y3 y4 y5 y6) (impl_UnitCircuit.l0 (k + 1) y0 y1 y2 y3 y4 y5 y6))
 | 0 => ⟨fun _ _ _ _ r h => by simp [impl_UnitCircuit.j0] at h, fun _ _ _ _ _ _ _ r h => by simp [impl_UnitCircuit.l0] at h⟩
 | k + 1 => by
  obtain ⟨ih0, ih1⟩ := impl_UnitCircuit.mono_l k
  refine ⟨?_, ?_⟩
  ·intro y0 y1 y2 y3
   unfold impl_UnitCircuit.j0
   repeat' first
   | (with_reducible exact ih0 _ _ _ _)
   | (with_reducible exact ih1 _ _ _ _ _ _ _)
   | (with_reducible exact impl_areUnit.mono _ _)
   | (with_reducible exact impl_has.mono _ _ _)
   | (with_reducible exact impl_isSet.mono _ _ _)
   | (with_reducible exact impl_without.mono _ _ _)
   | (with_reducible exact LeO.refl _)
   | (with_reducible exact LeO.none _)
   | (with_reducible refine LeO.ite ?_ ?_)
   | (with_reducible refine LeO.bind ?_ (fun _ => ?_))
   | exact ih0 _ _ _ _
   | exact ih1 _ _ _ _ _ _ _
   | exact impl_areUnit.mono _ _
   | exact impl_has.mono _ _ _
   | exact impl_isSet.mono _ _ _
   | exact impl_without.mono _ _ _
   | exact LeO.none _
   | refine LeO.ite ?_ ?_
   | refine LeO.bind ?_ (fun _ => ?_)
  ·intro y0 y1 y2 y3 y4 y5 y6
   unfold impl_UnitCircuit.l0
   repeat' first
   | (with_reducible exact ih0 _ _ _ _)
   | (with_reducible exact ih1 _ _ _ _ _ _ _)
   | (with_reducible exact impl_areUnit.mono _ _)
   | (with_reducible exact impl_has.mono _ _ _)
   | (with_reducible exact impl_isSet.mono _ _ _)
   | (with_reducible exact impl_without.mono _ _ _)
   | (with_reducible exact LeO.refl _)
   | (with_reducible exact LeO.none _)
   | (with_reducible refine LeO.ite ?_ ?_)
   | (with_reducible refine LeO.bind ?_ (fun _ => ?_))
   | exact ih0 _ _ _ _
   | exact ih1 _ _ _ _ _ _ _
   | exact impl_areUnit.mono _ _
   | exact impl_has.mono _ _ _
   | exact impl_isSet.mono _ _ _
   | exact impl_without.mono _ _ _
   | exact LeO.none _
   | refine LeO.ite ?_ ?_
   | refine LeO.bind ?_ (fun _ => ?_)
theorem impl_UnitCircuit.mono : ∀ a0 a1 a2 k, LeO (impl_UnitCircuit.f k a0 a1 a2) (impl_UnitCircuit.f (k + 1) a0 a1 a2) := by
 intro a0 a1 a2 k
 obtain ⟨ih0, ih1⟩ := impl_UnitCircuit.mono_l k
 unfold impl_UnitCircuit.f
 repeat' first
   | (with_reducible exact ih0 _ _ _ _)
   | (with_reducible exact ih1 _ _ _ _ _ _ _)
   | (with_reducible exact impl_areUnit.mono _ _)
   | (with_reducible exact impl_has.mono _ _ _)
   | (with_reducible exact impl_isSet.mono _ _ _)
   | (with_reducible exact impl_without.mono _ _ _)
   | (with_reducible exact LeO.refl _)
   | (with_reducible exact LeO.none _)
   | (with_reducible refine LeO.ite ?_ ?_)
   | (with_reducible refine LeO.bind ?_ (fun _ => ?_))
   | exact ih0 _ _ _ _
   | exact ih1 _ _ _ _ _ _ _
   | exact impl_areUnit.mono _ _
   | exact impl_has.mono _ _ _
   | exact impl_isSet.mono _ _ _
   | exact impl_without.mono _ _ _
   | exact LeO.none _
   | refine LeO.ite ?_ ?_
   | refine LeO.bind ?_ (fun _ => ?_)
set_option maxHeartbeats 8000000 in
set_option maxRecDepth 100000 in
theorem impl_UnitCircuit.calls (k : Nat) (A0 : Option Addr) (c0 : Nat) (l0 : List (S43)) (A1 : Option Addr) (c1 : Nat) (l1 : List Int) (a2 : Int) (r1 : List Int) (r2 : Bool) (w : World) (hr0 : Kd.C k43 w A0 l0.length l0) (hc0 : l0.length ≤ c0) (hr1 : Kd.C (Kd.int .i64) w A1 l1.length l1) (hc1 : l1.length ≤ c1) (h : impl_UnitCircuit.f k l0 l1 a2 = some (r1, r2)) :
  Calls Try.prog 16 #[.slice A0 l0.length c0, .slice A1 l1.length c1, .int .i64 a2] w fun e w' => ∃ v0_ : Value, e = .returned (.tuple #[v0_, .bool r2]) ∧ Kd.R (Kd.int .i64) 3 w' w.heap.size (fun _ => True) v0_ r1 ∧ Below w.heap.size w w' := by
 have HR0 := Aside0.mk hr0
 have HC0 := Aside0.mk hc0
 clear hr0 hc0
 have HR1 := Aside0.mk hr1
 have HC1 := Aside0.mk hc1
 clear hr1 hc1
 have HB := Aside0.mk (Below.refl w.heap.size w)
 have H : ((impl_areUnit.f k l0).bind fun t328 => (if t328 = true then ((impl_isSet.f k (l0.length : Int) l1).bind fun t329 => (if t329 = true then ((impl_onTime.f l0 l1).bind fun t330 => (if t330 = true then ((impl_isNumber.f a2 (l0.length : Int)).bind fun t331 => (if t331 = true then ((impl_has.f k l1 a2).bind fun t332 => (impl_UnitCircuit.j0 k l0 l1 a2 t332)) else (impl_UnitCircuit.j0 k l0 l1 a2 true))) else (impl_UnitCircuit.j0 k l0 l1 a2 true))) else (impl_UnitCircuit.j0 k l0 l1 a2 true))) else (impl_UnitCircuit.j0 k l0 l1 a2 true))) = some (r1, r2) := h
 clear h
 have HC4 := Aside0.mk H
 clear H
 go_enter Try.func16, Try.ntmps16
 go_upto_region 1 with (fail)
 go_cut [39] (fun v39 wc => ∃ (kq : Nat) (x39_3 : Bool), v39 = .bool x39_3 ∧ Aside0 (impl_UnitCircuit.j0 kq l0 l1 a2 x39_3 = some (r1, r2)) ∧ Aside0 (kq ≤ k) ∧ Aside0 (Below w.heap.size w wc))
 case first =>
  have H := HC4.out
  clear HC4
  replace H := Option.bind_eq_some_iff.mp H
  obtain ⟨t328, A50, H⟩ := H
  replace H : (if t328 = true then ((impl_isSet.f k (l0.length : Int) l1).bind fun t329 => (if t329 = true then ((impl_onTime.f l0 l1).bind fun t330 => (if t330 = true then ((impl_isNumber.f a2 (l0.length : Int)).bind fun t331 => (if t331 = true then ((impl_has.f k l1 a2).bind fun t332 => (impl_UnitCircuit.j0 k l0 l1 a2 t332)) else (impl_UnitCircuit.j0 k l0 l1 a2 true))) else (impl_UnitCircuit.j0 k l0 l1 a2 true))) else (impl_UnitCircuit.j0 k l0 l1 a2 true))) else (impl_UnitCircuit.j0 k l0 l1 a2 true)) = some (r1, r2) := H
  have A5 := Aside0.mk A50
  clear A50
  by_cases c6 : t328 = true
  rotate_left
  ·replace c6 := Bool.eq_false_iff.mpr c6
   subst c6
   have H1 : (impl_UnitCircuit.j0 k l0 l1 a2 true) = some (r1, r2) := by rw [if_neg (show ¬ (false = true) by decide)] at H; exact H
   clear H
   have H := H1
   clear H1
   have H' := Aside0.mk H
   clear H
   go_wp2_with (first | ((with_reducible refine gate_callee (f := 34) rfl ?_); refine goesL_ (some 13) rfl rfl Try.func34 (by kernel_rfl) rfl #[.slice A0 l0.length c0] rfl (by (try simp only [mA_]); first | done | rfl | (simp only [List.length_drop, List.length_take]; rfl)) ?_; (with_reducible refine (impl_areUnit.calls k _ _ l0 false _ ?side1 ?side2 A5.out).mono ?_); (case side1 => first | exact bC HR0.out HB.out | exact Kd.C_below HR0.out HB.out); (case side2 => exact HC0.out); rintro e w21 ⟨rfl, hb⟩; refine ⟨_, rfl, ?_⟩; have n0_ := Aside0.mk (below_step (bw HB.out) hb); replace HB := n0_; clear n0_; (try clear hb); (try clear hb2); (try clear hk); (try clear hi)))
   go_meet
   case rel => exact ⟨_, (true), (by first | rfl | (simp; done) | (simp [*]; done)), H', ⟨by first | omega | exact Nat.le_refl _⟩, ⟨bw HB.out⟩⟩
  subst c6
  have H1 : ((impl_isSet.f k (l0.length : Int) l1).bind fun t329 => (if t329 = true then ((impl_onTime.f l0 l1).bind fun t330 => (if t330 = true then ((impl_isNumber.f a2 (l0.length : Int)).bind fun t331 => (if t331 = true then ((impl_has.f k l1 a2).bind fun t332 => (impl_UnitCircuit.j0 k l0 l1 a2 t332)) else (impl_UnitCircuit.j0 k l0 l1 a2 true))) else (impl_UnitCircuit.j0 k l0 l1 a2 true))) else (impl_UnitCircuit.j0 k l0 l1 a2 true))) = some (r1, r2) := by rw [if_pos rfl] at H; exact H
  clear H
  have H := H1
  clear H1
  replace H := Option.bind_eq_some_iff.mp H
  obtain ⟨t329, A70, H⟩ := H
  replace H : (if t329 = true then ((impl_onTime.f l0 l1).bind fun t330 => (if t330 = true then ((impl_isNumber.f a2 (l0.length : Int)).bind fun t331 => (if t331 = true then ((impl_has.f k l1 a2).bind fun t332 => (impl_UnitCircuit.j0 k l0 l1 a2 t332)) else (impl_UnitCircuit.j0 k l0 l1 a2 true))) else (impl_UnitCircuit.j0 k l0 l1 a2 true))) else (impl_UnitCircuit.j0 k l0 l1 a2 true)) = some (r1, r2) := H
  have A7 := Aside0.mk A70
  clear A70
  by_cases c8 : t329 = true
  rotate_left
  ·replace c8 := Bool.eq_false_iff.mpr c8
   subst c8
   have H1 : (impl_UnitCircuit.j0 k l0 l1 a2 true) = some (r1, r2) := by rw [if_neg (show ¬ (false = true) by decide)] at H; exact H
   clear H
   have H := H1
   clear H1
   have H' := Aside0.mk H
   clear H
   go_wp2_with (first | ((with_reducible refine gate_callee (f := 34) rfl ?_); refine goesL_ (some 13) rfl rfl Try.func34 (by kernel_rfl) rfl #[.slice A0 l0.length c0] rfl (by (try simp only [mA_]); first | done | rfl | (simp only [List.length_drop, List.length_take]; rfl)) ?_; (with_reducible refine (impl_areUnit.calls k _ _ l0 true _ ?side1 ?side2 A5.out).mono ?_); (case side1 => first | exact bC HR0.out HB.out | exact Kd.C_below HR0.out HB.out); (case side2 => exact HC0.out); rintro e w20 ⟨rfl, hb⟩; refine ⟨_, rfl, ?_⟩; have n0_ := Aside0.mk (below_step (bw HB.out) hb); replace HB := n0_; clear n0_; (try clear hb); (try clear hb2); (try clear hk); (try clear hi)) | (go_at_call 25; (with_reducible refine (impl_isSet.calls k (l0.length : Int) _ _ l1 false _ ?side1 ?side2 A7.out).mono ?_); (case side1 => first | exact bC HR1.out HB.out | exact Kd.C_below HR1.out HB.out); (case side2 => exact HC1.out); rintro e w' ⟨rfl, ⟨nd, rfl⟩⟩))
   go_meet
   case rel => exact ⟨_, (true), (by first | rfl | (simp; done) | (simp [*]; done)), H', ⟨by first | omega | exact Nat.le_refl _⟩, ⟨bw HB.out⟩⟩
  subst c8
  have H1 : ((impl_onTime.f l0 l1).bind fun t330 => (if t330 = true then ((impl_isNumber.f a2 (l0.length : Int)).bind fun t331 => (if t331 = true then ((impl_has.f k l1 a2).bind fun t332 => (impl_UnitCircuit.j0 k l0 l1 a2 t332)) else (impl_UnitCircuit.j0 k l0 l1 a2 true))) else (impl_UnitCircuit.j0 k l0 l1 a2 true))) = some (r1, r2) := by rw [if_pos rfl] at H; exact H
  clear H
  have H := H1
  clear H1
  replace H := Option.bind_eq_some_iff.mp H
  obtain ⟨t330, A90, H⟩ := H
  replace H : (if t330 = true then ((impl_isNumber.f a2 (l0.length : Int)).bind fun t331 => (if t331 = true then ((impl_has.f k l1 a2).bind fun t332 => (impl_UnitCircuit.j0 k l0 l1 a2 t332)) else (impl_UnitCircuit.j0 k l0 l1 a2 true))) else (impl_UnitCircuit.j0 k l0 l1 a2 true)) = some (r1, r2) := H
  have A9 := Aside0.mk A90
  clear A90
  by_cases c10 : t330 = true
  rotate_left
  ·replace c10 := Bool.eq_false_iff.mpr c10
   subst c10
   have H1 : (impl_UnitCircuit.j0 k l0 l1 a2 true) = some (r1, r2) := by rw [if_neg (show ¬ (false = true) by decide)] at H; exact H
   clear H
   have H := H1
   clear H1
   have H' := Aside0.mk H
   clear H
   go_wp2_with (first | ((with_reducible refine gate_callee (f := 34) rfl ?_); refine goesL_ (some 13) rfl rfl Try.func34 (by kernel_rfl) rfl #[.slice A0 l0.length c0] rfl (by (try simp only [mA_]); first | done | rfl | (simp only [List.length_drop, List.length_take]; rfl)) ?_; (with_reducible refine (impl_areUnit.calls k _ _ l0 true _ ?side1 ?side2 A5.out).mono ?_); (case side1 => first | exact bC HR0.out HB.out | exact Kd.C_below HR0.out HB.out); (case side2 => exact HC0.out); rintro e w18 ⟨rfl, hb⟩; refine ⟨_, rfl, ?_⟩; have n0_ := Aside0.mk (below_step (bw HB.out) hb); replace HB := n0_; clear n0_; (try clear hb); (try clear hb2); (try clear hk); (try clear hi)) | (go_at_call 25; (with_reducible refine (impl_isSet.calls k (l0.length : Int) _ _ l1 true _ ?side1 ?side2 A7.out).mono ?_); (case side1 => first | exact bC HR1.out HB.out | exact Kd.C_below HR1.out HB.out); (case side2 => exact HC1.out); rintro e w' ⟨rfl, ⟨nd, rfl⟩⟩) | (go_at_call 26; (with_reducible refine (impl_onTime.calls _ _ l0 _ _ l1 false _ ?side1 ?side2 ?side3 ?side4 A9.out).mono ?_); (case side1 => repeat (first | exact (Kd.C_below HR0.out (bw HB.out)) | (with_reducible refine Kd.C_alloc ?_ _) | (with_reducible refine Kd.C_drewN ?_ _) | (with_reducible refine Kd.C_drew ?_))); (case side2 => exact HC0.out); (case side3 => repeat (first | exact (Kd.C_below HR1.out (bw HB.out)) | (with_reducible refine Kd.C_alloc ?_ _) | (with_reducible refine Kd.C_drewN ?_ _) | (with_reducible refine Kd.C_drew ?_))); (case side4 => exact HC1.out); rintro e w19 ⟨rfl, hb⟩; have n0_ := Aside0.mk (below_step (bw HB.out) hb); replace HB := n0_; clear n0_; (try clear hb); (try clear hb2); (try clear hk); (try clear hi)))
   go_meet
   case rel => exact ⟨_, (true), (by first | rfl | (simp; done) | (simp [*]; done)), H', ⟨by first | omega | exact Nat.le_refl _⟩, ⟨bw HB.out⟩⟩
  subst c10
  have H1 : ((impl_isNumber.f a2 (l0.length : Int)).bind fun t331 => (if t331 = true then ((impl_has.f k l1 a2).bind fun t332 => (impl_UnitCircuit.j0 k l0 l1 a2 t332)) else (impl_UnitCircuit.j0 k l0 l1 a2 true))) = some (r1, r2) := by rw [if_pos rfl] at H; exact H
  clear H
  have H := H1
  clear H1
  replace H := Option.bind_eq_some_iff.mp H
  obtain ⟨t331, A110, H⟩ := H
  replace H : (if t331 = true then ((impl_has.f k l1 a2).bind fun t332 => (impl_UnitCircuit.j0 k l0 l1 a2 t332)) else (impl_UnitCircuit.j0 k l0 l1 a2 true)) = some (r1, r2) := H
  have A11 := Aside0.mk A110
  clear A110
  by_cases c12 : t331 = true
  rotate_left
  ·replace c12 := Bool.eq_false_iff.mpr c12
   subst c12
   have H1 : (impl_UnitCircuit.j0 k l0 l1 a2 true) = some (r1, r2) := by rw [if_neg (show ¬ (false = true) by decide)] at H; exact H
   clear H
   have H := H1
   clear H1
   have H' := Aside0.mk H
   clear H
   go_wp2_with (first | ((with_reducible refine gate_callee (f := 34) rfl ?_); refine goesL_ (some 13) rfl rfl Try.func34 (by kernel_rfl) rfl #[.slice A0 l0.length c0] rfl (by (try simp only [mA_]); first | done | rfl | (simp only [List.length_drop, List.length_take]; rfl)) ?_; (with_reducible refine (impl_areUnit.calls k _ _ l0 true _ ?side1 ?side2 A5.out).mono ?_); (case side1 => first | exact bC HR0.out HB.out | exact Kd.C_below HR0.out HB.out); (case side2 => exact HC0.out); rintro e w16 ⟨rfl, hb⟩; refine ⟨_, rfl, ?_⟩; have n0_ := Aside0.mk (below_step (bw HB.out) hb); replace HB := n0_; clear n0_; (try clear hb); (try clear hb2); (try clear hk); (try clear hi)) | (go_at_call 25; (with_reducible refine (impl_isSet.calls k (l0.length : Int) _ _ l1 true _ ?side1 ?side2 A7.out).mono ?_); (case side1 => first | exact bC HR1.out HB.out | exact Kd.C_below HR1.out HB.out); (case side2 => exact HC1.out); rintro e w' ⟨rfl, ⟨nd, rfl⟩⟩) | (go_at_call 26; (with_reducible refine (impl_onTime.calls _ _ l0 _ _ l1 true _ ?side1 ?side2 ?side3 ?side4 A9.out).mono ?_); (case side1 => repeat (first | exact (Kd.C_below HR0.out (bw HB.out)) | (with_reducible refine Kd.C_alloc ?_ _) | (with_reducible refine Kd.C_drewN ?_ _) | (with_reducible refine Kd.C_drew ?_))); (case side2 => exact HC0.out); (case side3 => repeat (first | exact (Kd.C_below HR1.out (bw HB.out)) | (with_reducible refine Kd.C_alloc ?_ _) | (with_reducible refine Kd.C_drewN ?_ _) | (with_reducible refine Kd.C_drew ?_))); (case side4 => exact HC1.out); rintro e w17 ⟨rfl, hb⟩; have n0_ := Aside0.mk (below_step (bw HB.out) hb); replace HB := n0_; clear n0_; (try clear hb); (try clear hb2); (try clear hk); (try clear hi)) | (go_at_call 35; (with_reducible refine (impl_isNumber.calls a2 (l0.length : Int) false _ A11.out).mono ?_); rintro e w' ⟨rfl, ⟨nd, rfl⟩⟩))
   go_meet
   case rel => exact ⟨_, (true), (by first | rfl | (simp; done) | (simp [*]; done)), H', ⟨by first | omega | exact Nat.le_refl _⟩, ⟨bw HB.out⟩⟩
  subst c12
  have H1 : ((impl_has.f k l1 a2).bind fun t332 => (impl_UnitCircuit.j0 k l0 l1 a2 t332)) = some (r1, r2) := by rw [if_pos rfl] at H; exact H
  clear H
  have H := H1
  clear H1
  replace H := Option.bind_eq_some_iff.mp H
  obtain ⟨t332, A130, H⟩ := H
  replace H : (impl_UnitCircuit.j0 k l0 l1 a2 t332) = some (r1, r2) := H
  have A13 := Aside0.mk A130
  clear A130
  have H' := Aside0.mk H
  clear H
  go_wp2_with (first | ((with_reducible refine gate_callee (f := 34) rfl ?_); refine goesL_ (some 13) rfl rfl Try.func34 (by kernel_rfl) rfl #[.slice A0 l0.length c0] rfl (by (try simp only [mA_]); first | done | rfl | (simp only [List.length_drop, List.length_take]; rfl)) ?_; (with_reducible refine (impl_areUnit.calls k _ _ l0 true _ ?side1 ?side2 A5.out).mono ?_); (case side1 => first | exact bC HR0.out HB.out | exact Kd.C_below HR0.out HB.out); (case side2 => exact HC0.out); rintro e w14 ⟨rfl, hb⟩; refine ⟨_, rfl, ?_⟩; have n0_ := Aside0.mk (below_step (bw HB.out) hb); replace HB := n0_; clear n0_; (try clear hb); (try clear hb2); (try clear hk); (try clear hi)) | (go_at_call 25; (with_reducible refine (impl_isSet.calls k (l0.length : Int) _ _ l1 true _ ?side1 ?side2 A7.out).mono ?_); (case side1 => first | exact bC HR1.out HB.out | exact Kd.C_below HR1.out HB.out); (case side2 => exact HC1.out); rintro e w' ⟨rfl, ⟨nd, rfl⟩⟩) | (go_at_call 26; (with_reducible refine (impl_onTime.calls _ _ l0 _ _ l1 true _ ?side1 ?side2 ?side3 ?side4 A9.out).mono ?_); (case side1 => repeat (first | exact (Kd.C_below HR0.out (bw HB.out)) | (with_reducible refine Kd.C_alloc ?_ _) | (with_reducible refine Kd.C_drewN ?_ _) | (with_reducible refine Kd.C_drew ?_))); (case side2 => exact HC0.out); (case side3 => repeat (first | exact (Kd.C_below HR1.out (bw HB.out)) | (with_reducible refine Kd.C_alloc ?_ _) | (with_reducible refine Kd.C_drewN ?_ _) | (with_reducible refine Kd.C_drew ?_))); (case side4 => exact HC1.out); rintro e w15 ⟨rfl, hb⟩; have n0_ := Aside0.mk (below_step (bw HB.out) hb); replace HB := n0_; clear n0_; (try clear hb); (try clear hb2); (try clear hk); (try clear hi)) | (go_at_call 35; (with_reducible refine (impl_isNumber.calls a2 (l0.length : Int) true _ A11.out).mono ?_); rintro e w' ⟨rfl, ⟨nd, rfl⟩⟩) | (go_at_call 36; (with_reducible refine (impl_has.calls k _ _ l1 a2 t332 _ ?side1 ?side2 A13.out).mono ?_); (case side1 => repeat (first | exact (Kd.C_below HR1.out (bw HB.out)) | (with_reducible refine Kd.C_alloc ?_ _) | (with_reducible refine Kd.C_drewN ?_ _) | (with_reducible refine Kd.C_drew ?_))); (case side2 => exact HC1.out); rintro e w' ⟨rfl, ⟨nd, rfl⟩⟩))
  go_meet
  case rel => exact ⟨_, (t332), (by first | rfl | (simp; done) | (simp [*]; done)), H', ⟨by first | omega | exact Nat.le_refl _⟩, ⟨bw HB.out⟩⟩
 case rest =>
  clear HC4
  try clear c1
  try clear p2
  try clear c3
  try clear c6
  try clear c8
  try clear c10
  try clear c12
  try clear c16
  obtain ⟨kq, x39_3, rfl, HA, HJ3, HB⟩ := hcut
  cases kq with
  | zero => exact absurd HA.out (by simp [impl_UnitCircuit.j0])
  | succ kj3 =>
   have H := HA.out
   clear HA
   simp only [impl_UnitCircuit.j0] at H
   by_cases c22 : x39_3 = true
   ·subst c22
    have H1 : (some (([] : List Int), false)) = some (r1, r2) := by rw [if_pos rfl] at H; exact H
    clear H
    have H := H1
    clear H1
    simp only [Option.some.injEq, Prod.mk.injEq] at H
    obtain ⟨rfl, rfl⟩ := H
    go_wp2
    go_ret2
    exact ⟨_, by first | rfl | (simp [errW_none, errW_some] <;> rfl) | (simp [*, errW_none, errW_some] <;> rfl), by first | exact Kd.R_nil _ _ _ _ _ | exact Kd.N_nil _ _ _ _ _ | exact Kd.V_nil _ _ _ _ _ | exact Kd.Q_nil _ _ _ _ _ | exact Kd.S_nil _ _ _ _ _, bw HB.out⟩
   replace c22 := Bool.eq_false_iff.mpr c22
   subst c22
   have H1 : ((impl_copyInts.f l1).bind fun t333 => ((impl_putInt.f t333 a2).bind fun t336 => ((impl_onTime.f l0 t336).bind fun t339 => (if t339 = true then (some (([] : List Int), false)) else (impl_UnitCircuit.l0 kj3 l0 a2 t336 ([] : List Int) t336 (t336.length : Int) 0))))) = some (r1, r2) := by rw [if_neg (show ¬ (false = true) by decide)] at H; exact H
   clear H
   have H := H1
   clear H1
   replace H := Option.bind_eq_some_iff.mp H
   obtain ⟨t333, A230, H⟩ := H
   replace H : ((impl_putInt.f t333 a2).bind fun t336 => ((impl_onTime.f l0 t336).bind fun t339 => (if t339 = true then (some (([] : List Int), false)) else (impl_UnitCircuit.l0 kj3 l0 a2 t336 ([] : List Int) t336 (t336.length : Int) 0)))) = some (r1, r2) := H
   have A23 := Aside0.mk A230
   clear A230
   replace H := Option.bind_eq_some_iff.mp H
   obtain ⟨t336, A240, H⟩ := H
   replace H : ((impl_onTime.f l0 t336).bind fun t339 => (if t339 = true then (some (([] : List Int), false)) else (impl_UnitCircuit.l0 kj3 l0 a2 t336 ([] : List Int) t336 (t336.length : Int) 0))) = some (r1, r2) := H
   have A24 := Aside0.mk A240
   clear A240
   replace H := Option.bind_eq_some_iff.mp H
   obtain ⟨t339, A250, H⟩ := H
   replace H : (if t339 = true then (some (([] : List Int), false)) else (impl_UnitCircuit.l0 kj3 l0 a2 t336 ([] : List Int) t336 (t336.length : Int) 0)) = some (r1, r2) := H
   have A25 := Aside0.mk A250
   clear A250
   by_cases c26 : t339 = true
   ·subst c26
    have H1 : (some (([] : List Int), false)) = some (r1, r2) := by rw [if_pos rfl] at H; exact H
    clear H
    have H := H1
    clear H1
    simp only [Option.some.injEq, Prod.mk.injEq] at H
    obtain ⟨rfl, rfl⟩ := H
    go_wp2_with (first | ((with_reducible refine gate_callee (f := 38) rfl ?_); refine goesL_ (some 41) rfl rfl Try.func38 (by kernel_rfl) rfl #[.slice A1 l1.length c1] rfl (by (try simp only [mA_]); first | done | rfl | (simp only [List.length_drop, List.length_take]; rfl)) ?_; (with_reducible refine (impl_copyInts.calls _ _ l1 t333 _ ?side1 ?side2 A23.out).mono ?_); (case side1 => first | exact bC HR1.out HB.out | exact Kd.C_below HR1.out HB.out); (case side2 => exact HC1.out); rintro e w27 ⟨v334, rfl, ho0, hb⟩; refine ⟨_, rfl, ?_⟩; have n0_ := Aside0.mk (Kd.R_lower ho0 (below_size (bw HB.out))); have n1_ := Aside0.mk (below_step (bw HB.out) hb); have HO335 := n0_; replace HB := n1_; clear n0_ n1_; (try clear hb); (try clear hb2); (try clear hk); (try clear hi); (try clear ho0); obtain ⟨Ao28, co28, eo28⟩ := Kd.R_slice HO335.out; subst eo28) | ((with_reducible refine gate_callee (f := 37) rfl ?_); refine goesL_ (some 43) rfl rfl Try.func37 (by kernel_rfl) rfl #[.slice Ao28 t333.length co28, .int .i64 a2] rfl (by (try simp only [mA_]); first | done | rfl | (simp only [List.length_drop, List.length_take]; rfl)) ?_; (with_reducible refine (impl_putInt.calls (fun k_ => some k_ = (.slice Ao28 t333.length co28 : Value).ownBlock) (.slice Ao28 t333.length co28) t333 a2 t336 w _ ?side1 ?side2 A24.out).mono ?_); (case side1 => repeat (first | (with_reducible first | exact HB.out | apply below_alloc | apply pw_below_drewN | apply below_drew1) | exact HB.out)); (case side2 => exact Kd.R_tight rfl HO335.out); rintro e w29 ⟨v337, rfl, ho0, hb, hkp⟩; refine ⟨_, rfl, ?_⟩; have n0_ := Aside0.mk (Kd.R_mono (ok' := fun k_ => True) ho0 (fun k_ hk_ => trivial)); have n1_ := Aside0.mk (hb); clear HO335; have HO338 := n0_; replace HB := n1_; clear n0_ n1_; (try clear hb); (try clear hkp); (try clear ho0); obtain ⟨Ao30, co30, eo30⟩ := Kd.R_slice HO338.out; subst eo30) | ((with_reducible refine gate_callee (f := 26) rfl ?_); refine goesL_ (some 46) rfl rfl Try.func26 (by kernel_rfl) rfl #[.slice A0 l0.length c0, .slice Ao30 t336.length co30] rfl (by (try simp only [mA_]); first | done | rfl | (simp only [List.length_drop, List.length_take]; rfl)) ?_; (with_reducible refine (impl_onTime.calls _ _ l0 _ _ t336 true _ ?side1 ?side2 ?side3 ?side4 A25.out).mono ?_); (case side1 => first | exact bC HR0.out HB.out | exact Kd.C_below HR0.out HB.out); (case side2 => exact HC0.out); (case side3 => repeat (first | exact (Kd.R_reads' HO338.out).2.2 | (with_reducible refine Kd.C_alloc ?_ _) | (with_reducible refine Kd.C_drewN ?_ _) | (with_reducible refine Kd.C_drew ?_))); (case side4 => exact (Kd.R_reads' HO338.out).2.1); rintro e w31 ⟨rfl, hb⟩; refine ⟨_, rfl, ?_⟩; have n0_ := Aside0.mk (Kd.R_below (bR HO338.out) hb); have n1_ := Aside0.mk (below_step (bw HB.out) hb); replace HO338 := n0_; replace HB := n1_; clear n0_ n1_; (try clear hb); (try clear hb2); (try clear hk); (try clear hi)))
    go_ret2
    exact ⟨_, by first | rfl | (simp [errW_none, errW_some] <;> rfl) | (simp [*, errW_none, errW_some] <;> rfl), by first | exact Kd.R_nil _ _ _ _ _ | exact Kd.N_nil _ _ _ _ _ | exact Kd.V_nil _ _ _ _ _ | exact Kd.Q_nil _ _ _ _ _ | exact Kd.S_nil _ _ _ _ _, bw HB.out⟩
   replace c26 := Bool.eq_false_iff.mpr c26
   subst c26
   have H1 : (impl_UnitCircuit.l0 kj3 l0 a2 t336 ([] : List Int) t336 (t336.length : Int) 0) = some (r1, r2) := by rw [if_neg (show ¬ (false = true) by decide)] at H; exact H
   clear H
   have H := H1
   clear H1
   have H' := Aside0.mk H
   clear H
   go_wp2_with (first | ((with_reducible refine gate_callee (f := 38) rfl ?_); refine goesL_ (some 41) rfl rfl Try.func38 (by kernel_rfl) rfl #[.slice A1 l1.length c1] rfl (by (try simp only [mA_]); first | done | rfl | (simp only [List.length_drop, List.length_take]; rfl)) ?_; (with_reducible refine (impl_copyInts.calls _ _ l1 t333 _ ?side1 ?side2 A23.out).mono ?_); (case side1 => first | exact bC HR1.out HB.out | exact Kd.C_below HR1.out HB.out); (case side2 => exact HC1.out); rintro e w32 ⟨v334, rfl, ho0, hb⟩; refine ⟨_, rfl, ?_⟩; have n0_ := Aside0.mk (Kd.R_lower ho0 (below_size (bw HB.out))); have n1_ := Aside0.mk (below_step (bw HB.out) hb); have HO335 := n0_; replace HB := n1_; clear n0_ n1_; (try clear hb); (try clear hb2); (try clear hk); (try clear hi); (try clear ho0); obtain ⟨Ao33, co33, eo33⟩ := Kd.R_slice HO335.out; subst eo33) | ((with_reducible refine gate_callee (f := 37) rfl ?_); refine goesL_ (some 43) rfl rfl Try.func37 (by kernel_rfl) rfl #[.slice Ao33 t333.length co33, .int .i64 a2] rfl (by (try simp only [mA_]); first | done | rfl | (simp only [List.length_drop, List.length_take]; rfl)) ?_; (with_reducible refine (impl_putInt.calls (fun k_ => some k_ = (.slice Ao33 t333.length co33 : Value).ownBlock) (.slice Ao33 t333.length co33) t333 a2 t336 w _ ?side1 ?side2 A24.out).mono ?_); (case side1 => repeat (first | (with_reducible first | exact HB.out | apply below_alloc | apply pw_below_drewN | apply below_drew1) | exact HB.out)); (case side2 => exact Kd.R_tight rfl HO335.out); rintro e w34 ⟨v337, rfl, ho0, hb, hkp⟩; refine ⟨_, rfl, ?_⟩; have n0_ := Aside0.mk (Kd.R_mono (ok' := fun k_ => True) ho0 (fun k_ hk_ => trivial)); have n1_ := Aside0.mk (hb); clear HO335; have HO338 := n0_; replace HB := n1_; clear n0_ n1_; (try clear hb); (try clear hkp); (try clear ho0); obtain ⟨Ao35, co35, eo35⟩ := Kd.R_slice HO338.out; subst eo35) | ((with_reducible refine gate_callee (f := 26) rfl ?_); refine goesL_ (some 46) rfl rfl Try.func26 (by kernel_rfl) rfl #[.slice A0 l0.length c0, .slice Ao35 t336.length co35] rfl (by (try simp only [mA_]); first | done | rfl | (simp only [List.length_drop, List.length_take]; rfl)) ?_; (with_reducible refine (impl_onTime.calls _ _ l0 _ _ t336 false _ ?side1 ?side2 ?side3 ?side4 A25.out).mono ?_); (case side1 => first | exact bC HR0.out HB.out | exact Kd.C_below HR0.out HB.out); (case side2 => exact HC0.out); (case side3 => repeat (first | exact (Kd.R_reads' HO338.out).2.2 | (with_reducible refine Kd.C_alloc ?_ _) | (with_reducible refine Kd.C_drewN ?_ _) | (with_reducible refine Kd.C_drew ?_))); (case side4 => exact (Kd.R_reads' HO338.out).2.1); rintro e w36 ⟨rfl, hb⟩; refine ⟨_, rfl, ?_⟩; have n0_ := Aside0.mk (Kd.R_below (bR HO338.out) hb); have n1_ := Aside0.mk (below_step (bw HB.out) hb); replace HO338 := n0_; replace HB := n1_; clear n0_ n1_; (try clear hb); (try clear hb2); (try clear hk); (try clear hi)))
   go_loopg [9, 49] kj3 (fun kq v9 v49 w' => ∃ (x9_2 : List Int) (x49_2 : Int), v49 = .int .i64 x49_2 ∧ Aside0 (impl_UnitCircuit.l0 kq l0 a2 t336 x9_2 t336 (t336.length : Int) x49_2 = some (r1, r2)) ∧ Aside0 (kq ≤ kj3) ∧ Aside0 (Kd.R (Kd.int .i64) 3 w' w.heap.size (fun k_ => some k_ ≠ (v9 : Value).ownBlock) (.slice Ao35 t336.length co35) t336) ∧ Aside0 (Kd.R (Kd.int .i64) 3 w' w.heap.size (fun k_ => some k_ ≠ ((.slice Ao35 t336.length co35) : Value).ownBlock ∧ some k_ ≠ ((.slice Ao35 t336.length co35) : Value).ownBlock) v9 x9_2) ∧ Aside0 (Kd.R (Kd.int .i64) 3 w' w.heap.size (fun k_ => some k_ ≠ (v9 : Value).ownBlock) (.slice Ao35 t336.length co35) t336) ∧ Aside0 (Below w.heap.size w w'))
   case atStart => exact ⟨(([] : List Int)), (0), (by first | rfl | (simp; done) | (simp [*]; done)), H', ⟨Nat.le_refl _⟩, ⟨by (with_reducible repeat (first | apply Kd.R_alloc | apply Kd.R_drewN | apply Kd.R_drew)); exact Kd.R_mono HO338.out (fun _ hk => (by simp [Value.ownBlock]))⟩, ⟨by first | exact Kd.R_nil _ _ _ _ _ | exact Kd.N_nil _ _ _ _ _ | exact Kd.V_nil _ _ _ _ _ | exact Kd.Q_nil _ _ _ _ _ | exact Kd.S_nil _ _ _ _ _⟩, ⟨by (with_reducible repeat (first | apply Kd.R_alloc | apply Kd.R_drewN | apply Kd.R_drew)); exact Kd.R_mono HO338.out (fun _ hk => (by simp [Value.ownBlock]))⟩, ⟨bw HB.out⟩⟩
   case round =>
    clear H'
    try clear c1
    try clear c2
    try clear p2
    try clear c3
    try clear c6
    try clear c8
    try clear c10
    try clear c12
    try clear c16
    try clear c22
    try clear c26
    try clear c34
    try clear p2
    obtain ⟨x9_2, x49_2, rfl, HA, HK2, HO_8, HO_9, HO_47, HB⟩ := hrel
    cases gk with
    | zero => exact absurd HA.out (by simp [impl_UnitCircuit.l0])
    | succ k2 =>
     have H := HA.out
     clear HA
     simp only [impl_UnitCircuit.l0] at H
     by_cases c37 : x49_2 < (t336.length : Int)
     rotate_left
     ·rw [if_neg c37] at H
      have c37b0 : decide (x49_2 < (t336.length : Int)) = false := decide_eq_false c37
      clear c37
      simp only [Option.some.injEq, Prod.mk.injEq] at H
      obtain ⟨rfl, rfl⟩ := H
      go_wp2
      go_ret2
      exact ⟨_, by first | rfl | (simp [errW_none, errW_some] <;> rfl) | (simp [*, errW_none, errW_some] <;> rfl), by (with_reducible repeat (first | apply Kd.R_alloc | apply Kd.R_drewN | apply Kd.R_drew)); exact Kd.R_mono HO_9.out (fun _ hk => trivial), bw HB.out⟩
     rw [if_pos c37] at H
     have c37b0 : decide (x49_2 < (t336.length : Int)) = true := decide_eq_true c37
     clear c37
     by_cases c38 : 0 ≤ x49_2
     rotate_left
     ·rw [if_neg c38] at H
      exact absurd H (by simp)
     rw [if_pos c38] at H
     have c38b0 : decide (0 ≤ x49_2) = true := decide_eq_true c38
     clear c38
     by_cases c39 : x49_2 < (t336.length : Int)
     rotate_left
     ·rw [if_neg c39] at H
      exact absurd H (by simp)
     rw [if_pos c39] at H
     have c39b0 : decide (x49_2 < (t336.length : Int)) = true := decide_eq_true c39
     clear c39
     by_cases c40 : (rd t336 x49_2) = a2
     ·rw [if_pos c40] at H
      have c40b0 : ((rd t336 x49_2) == a2) = true := beq_iff_eq.mpr c40
      have c40b1 : ((rd t336 x49_2) != a2) = false := bne_eq_false_iff_eq.mpr c40
      clear c40
      by_cases c41 : x9_2.length < 17592186044416
      rotate_left
      ·rw [if_neg c41] at H
       exact absurd H (by simp)
      rw [if_pos c41] at H
      have LMc41 := Aside0.mk c41
      clear c41
      obtain ⟨y341, hy341⟩ : ∃ y_ : List Int, y_ = (x9_2 ++ [rd t336 x49_2]) := ⟨_, rfl⟩
      replace H : (impl_UnitCircuit.l0 k2 l0 a2 t336 y341 t336 (t336.length : Int) (wrap64 (x49_2 + 1))) = some (r1, r2) := by first | (rw [hy341]; with_reducible exact H) | (have H2_ := (Option.bind_some _ _).symm.trans H; rw [hy341]; with_reducible exact H2_) | (have H2_ := (Option.bind_some _ _).symm.trans H; with_reducible exact H2_) | with_reducible exact H | (rw [hy341]; exact H) | exact H
      have Ny341 := Aside0.mk hy341
      clear hy341
      have H' := Aside0.mk H
      clear H
      have p340 : 0 ≤ (x49_2 : Int) := of_decide_eq_true (by first | (with_reducible assumption) | assumption)
      have q340 : x49_2 < (t336.length : Int) := of_decide_eq_true (by first | (with_reducible assumption) | assumption)
      obtain ⟨ad340, e340, hx340_0⟩ := Kd.at_int (Kd.R_reads' HO_47.out).2.2 x49_2 p340 q340
      cases e340
      replace p340 := eq_true p340
      replace q340 := eq_true q340
      go_wp2_with (first | ((with_reducible refine gate_builtin (b := .append) (xs := #[.tmp 63, .tmp 65]) rfl ?_); (try (refine gate_guard (by rfl) ?_; dsimp only)); at_builtin; refine Kd.R_append (Kd.int .i64) (w0 := w) w.heap.size rfl (.tmp 63) (.tmp 65) 23 3 (.int .i64 0) 8 rfl Try.underlying23 info3 rfl (by decide) (by omega) u9 x9_2 (rd t336 x49_2) [.int .i64 (rd t336 x49_2)] (fun k_ => some k_ ≠ (.slice (some ad340) t336.length co35 : Value).ownBlock ∧ some k_ ≠ (.slice (some ad340) t336.length co35 : Value).ownBlock) (fun _ => False) rfl rfl ?aP (fun _ hk => hk.elim) ?aF ?aO ?aB ?aS ?aL ?_; (case aP => exact rfl); (case aB => exact (bw HB.out)); (case aF => exact (fun k_ hk => ⟨Kd.fresh' (Kd.R_lt (bR HO_8.out)) k_ hk, Kd.fresh' (Kd.R_lt (bR HO_47.out)) k_ hk⟩)); (case aO => exact (bR HO_9.out)); (case aS => exact (below_size (bw HB.out))); (case aL => have := LMc41.out; omega); intro v342 w42 ho hb hg hat; rw [← Ny341.out] at ho; have n0_ := Aside0.mk (Kd.R_after (ok := (fun _ => True)) (by (with_reducible repeat (first | apply Kd.R_alloc | apply Kd.R_drewN | apply Kd.R_drew)); exact Kd.R_mono HO_8.out (fun _ hk => ⟨trivial, hk⟩)) hg hat); have n1_ := Aside0.mk (Kd.R_after (ok := (fun _ => True)) (by (with_reducible repeat (first | apply Kd.R_alloc | apply Kd.R_drewN | apply Kd.R_drew)); exact Kd.R_mono HO_47.out (fun _ hk => ⟨trivial, hk⟩)) hg hat); have n2_ := Aside0.mk (hb); have n3_ := Aside0.mk (ho); clear HO_9; replace HO_8 := n0_; replace HO_47 := n1_; replace HB := n2_; have HO343 := n3_; clear n0_ n1_ n2_ n3_; clear ho hb hg hat))
      go_roundg k2
      case measure => have := HJ3.out; have := HK2.out; omega
      case rel => exact ⟨(y341), (wrap64 (x49_2 + 1)), (by first | rfl | (simp; done) | (simp [*]; done)), H', ⟨by have := HJ3.out; have := HK2.out; omega⟩, ⟨by (with_reducible repeat (first | apply Kd.R_alloc | apply Kd.R_drewN | apply Kd.R_drew)); exact Kd.R_mono HO_8.out (fun _ hk => hk.2)⟩, ⟨bR HO343.out⟩, ⟨by (with_reducible repeat (first | apply Kd.R_alloc | apply Kd.R_drewN | apply Kd.R_drew)); exact Kd.R_mono HO_47.out (fun _ hk => hk.2)⟩, ⟨bw HB.out⟩⟩
     rw [if_neg c40] at H
     have c40b0 : ((rd t336 x49_2) == a2) = false := beq_eq_false_iff_ne.mpr c40
     have c40b1 : ((rd t336 x49_2) != a2) = true := bne_iff_ne.mpr c40
     replace H := Option.bind_eq_some_iff.mp H
     obtain ⟨t344, A430, H⟩ := H
     replace H : ((impl_onTime.f l0 t344).bind fun t347 => (if t347 = true then (if x9_2.length < 17592186044416 then (impl_UnitCircuit.l0 k2 l0 a2 t336 (x9_2 ++ [rd t336 x49_2]) t336 (t336.length : Int) (wrap64 (x49_2 + 1))) else (none)) else (impl_UnitCircuit.l0 k2 l0 a2 t336 x9_2 t336 (t336.length : Int) (wrap64 (x49_2 + 1))))) = some (r1, r2) := H
     have A43 := Aside0.mk A430
     clear A430
     replace H := Option.bind_eq_some_iff.mp H
     obtain ⟨t347, A440, H⟩ := H
     replace H : (if t347 = true then (if x9_2.length < 17592186044416 then (impl_UnitCircuit.l0 k2 l0 a2 t336 (x9_2 ++ [rd t336 x49_2]) t336 (t336.length : Int) (wrap64 (x49_2 + 1))) else (none)) else (impl_UnitCircuit.l0 k2 l0 a2 t336 x9_2 t336 (t336.length : Int) (wrap64 (x49_2 + 1)))) = some (r1, r2) := H
     have A44 := Aside0.mk A440
     clear A440
     by_cases c45 : t347 = true
     rotate_left
     ·replace c45 := Bool.eq_false_iff.mpr c45
      subst c45
      have H1 : (impl_UnitCircuit.l0 k2 l0 a2 t336 x9_2 t336 (t336.length : Int) (wrap64 (x49_2 + 1))) = some (r1, r2) := by rw [if_neg (show ¬ (false = true) by decide)] at H; exact H
      clear H
      have H := H1
      clear H1
      have H' := Aside0.mk H
      clear H
      have p340 : 0 ≤ (x49_2 : Int) := of_decide_eq_true (by first | (with_reducible assumption) | assumption)
      have q340 : x49_2 < (t336.length : Int) := of_decide_eq_true (by first | (with_reducible assumption) | assumption)
      obtain ⟨ad340, e340, hx340_0⟩ := Kd.at_int (Kd.R_reads' HO_47.out).2.2 x49_2 p340 q340
      cases e340
      replace p340 := eq_true p340
      replace q340 := eq_true q340
      go_wp2_with (first | (go_at_call 39; (with_reducible refine (impl_without.calls k2 _ _ t336 (rd t336 x49_2) t344 _ ?side1 ?side2 A43.out).mono ?_); (case side1 => repeat (first | exact (Kd.R_reads' HO_8.out).2.2 | (with_reducible refine Kd.C_alloc ?_ _) | (with_reducible refine Kd.C_drewN ?_ _) | (with_reducible refine Kd.C_drew ?_))); (case side2 => exact (Kd.R_reads' HO_8.out).2.1); rintro e w51 ⟨v345, rfl, ho0, hb⟩; have n0_ := Aside0.mk (Kd.R_elder' (bR HO_8.out) (Kd.R_base ho0) hb); have n1_ := Aside0.mk (Kd.R_elder' (bR HO_9.out) (Kd.R_base ho0) hb); have n2_ := Aside0.mk (Kd.R_elder' (bR HO_47.out) (Kd.R_base ho0) hb); have n3_ := Aside0.mk (Kd.R_lower (Kd.R_new' (Kd.R_new' (Kd.R_new' ho0 (Kd.R_lt (bR HO_8.out))) (Kd.R_lt (bR HO_9.out))) (Kd.R_lt (bR HO_47.out))) (below_size (bw HB.out))); have n4_ := Aside0.mk (below_step (bw HB.out) hb); replace HO_8 := n0_; replace HO_9 := n1_; replace HO_47 := n2_; have HO346 := n3_; replace HB := n4_; clear n0_ n1_ n2_ n3_ n4_; (try clear hb); (try clear hb2); (try clear hk); (try clear hi); (try clear ho0); obtain ⟨Ao52, co52, eo52⟩ := Kd.R_slice HO346.out; subst eo52) | (go_at_call 26; (with_reducible refine (impl_onTime.calls _ _ l0 _ _ t344 false _ ?side1 ?side2 ?side3 ?side4 A44.out).mono ?_); (case side1 => first | exact bC HR0.out HB.out | exact Kd.C_below HR0.out HB.out); (case side2 => exact HC0.out); (case side3 => repeat (first | exact (Kd.R_reads' HO346.out).2.2 | (with_reducible refine Kd.C_alloc ?_ _) | (with_reducible refine Kd.C_drewN ?_ _) | (with_reducible refine Kd.C_drew ?_))); (case side4 => exact (Kd.R_reads' HO346.out).2.1); rintro e w53 ⟨rfl, hb⟩; have n0_ := Aside0.mk (Kd.R_below (bR HO_8.out) hb); have n1_ := Aside0.mk (Kd.R_below (bR HO_9.out) hb); have n2_ := Aside0.mk (Kd.R_below (bR HO_47.out) hb); have n3_ := Aside0.mk (Kd.R_below (bR HO346.out) hb); have n4_ := Aside0.mk (below_step (bw HB.out) hb); replace HO_8 := n0_; replace HO_9 := n1_; replace HO_47 := n2_; replace HO346 := n3_; replace HB := n4_; clear n0_ n1_ n2_ n3_ n4_; (try clear hb); (try clear hb2); (try clear hk); (try clear hi)))
      go_roundg k2
      case measure => have := HJ3.out; have := HK2.out; omega
      case rel => exact ⟨(x9_2), (wrap64 (x49_2 + 1)), (by first | rfl | (simp; done) | (simp [*]; done)), H', ⟨by have := HJ3.out; have := HK2.out; omega⟩, ⟨by (with_reducible repeat (first | apply Kd.R_alloc | apply Kd.R_drewN | apply Kd.R_drew)); exact Kd.R_mono HO_8.out (fun _ hk => hk.1)⟩, ⟨by (with_reducible repeat (first | apply Kd.R_alloc | apply Kd.R_drewN | apply Kd.R_drew)); exact Kd.R_mono HO_9.out (fun _ hk => ⟨hk.1.1, hk.1.2⟩)⟩, ⟨by (with_reducible repeat (first | apply Kd.R_alloc | apply Kd.R_drewN | apply Kd.R_drew)); exact Kd.R_mono HO_47.out (fun _ hk => hk.1)⟩, ⟨bw HB.out⟩⟩
     subst c45
     have H1 : (if x9_2.length < 17592186044416 then (impl_UnitCircuit.l0 k2 l0 a2 t336 (x9_2 ++ [rd t336 x49_2]) t336 (t336.length : Int) (wrap64 (x49_2 + 1))) else (none)) = some (r1, r2) := by rw [if_pos rfl] at H; exact H
     clear H
     have H := H1
     clear H1
     by_cases c46 : x9_2.length < 17592186044416
     rotate_left
     ·rw [if_neg c46] at H
      exact absurd H (by simp)
     rw [if_pos c46] at H
     have LMc46 := Aside0.mk c46
     clear c46
     obtain ⟨y348, hy348⟩ : ∃ y_ : List Int, y_ = (x9_2 ++ [rd t336 x49_2]) := ⟨_, rfl⟩
     replace H : (impl_UnitCircuit.l0 k2 l0 a2 t336 y348 t336 (t336.length : Int) (wrap64 (x49_2 + 1))) = some (r1, r2) := by first | (rw [hy348]; with_reducible exact H) | (have H2_ := (Option.bind_some _ _).symm.trans H; rw [hy348]; with_reducible exact H2_) | (have H2_ := (Option.bind_some _ _).symm.trans H; with_reducible exact H2_) | with_reducible exact H | (rw [hy348]; exact H) | exact H
     have Ny348 := Aside0.mk hy348
     clear hy348
     have H' := Aside0.mk H
     clear H
     have p340 : 0 ≤ (x49_2 : Int) := of_decide_eq_true (by first | (with_reducible assumption) | assumption)
     have q340 : x49_2 < (t336.length : Int) := of_decide_eq_true (by first | (with_reducible assumption) | assumption)
     obtain ⟨ad340, e340, hx340_0⟩ := Kd.at_int (Kd.R_reads' HO_47.out).2.2 x49_2 p340 q340
     cases e340
     replace p340 := eq_true p340
     replace q340 := eq_true q340
     go_wp2_with (first | (go_at_call 39; (with_reducible refine (impl_without.calls k2 _ _ t336 (rd t336 x49_2) t344 _ ?side1 ?side2 A43.out).mono ?_); (case side1 => repeat (first | exact (Kd.R_reads' HO_8.out).2.2 | (with_reducible refine Kd.C_alloc ?_ _) | (with_reducible refine Kd.C_drewN ?_ _) | (with_reducible refine Kd.C_drew ?_))); (case side2 => exact (Kd.R_reads' HO_8.out).2.1); rintro e w47 ⟨v345, rfl, ho0, hb⟩; have n0_ := Aside0.mk (Kd.R_elder' (bR HO_8.out) (Kd.R_base ho0) hb); have n1_ := Aside0.mk (Kd.R_elder' (bR HO_9.out) (Kd.R_base ho0) hb); have n2_ := Aside0.mk (Kd.R_elder' (bR HO_47.out) (Kd.R_base ho0) hb); have n3_ := Aside0.mk (Kd.R_lower (Kd.R_new' (Kd.R_new' (Kd.R_new' ho0 (Kd.R_lt (bR HO_8.out))) (Kd.R_lt (bR HO_9.out))) (Kd.R_lt (bR HO_47.out))) (below_size (bw HB.out))); have n4_ := Aside0.mk (below_step (bw HB.out) hb); replace HO_8 := n0_; replace HO_9 := n1_; replace HO_47 := n2_; have HO346 := n3_; replace HB := n4_; clear n0_ n1_ n2_ n3_ n4_; (try clear hb); (try clear hb2); (try clear hk); (try clear hi); (try clear ho0); obtain ⟨Ao48, co48, eo48⟩ := Kd.R_slice HO346.out; subst eo48) | (go_at_call 26; (with_reducible refine (impl_onTime.calls _ _ l0 _ _ t344 true _ ?side1 ?side2 ?side3 ?side4 A44.out).mono ?_); (case side1 => first | exact bC HR0.out HB.out | exact Kd.C_below HR0.out HB.out); (case side2 => exact HC0.out); (case side3 => repeat (first | exact (Kd.R_reads' HO346.out).2.2 | (with_reducible refine Kd.C_alloc ?_ _) | (with_reducible refine Kd.C_drewN ?_ _) | (with_reducible refine Kd.C_drew ?_))); (case side4 => exact (Kd.R_reads' HO346.out).2.1); rintro e w49 ⟨rfl, hb⟩; have n0_ := Aside0.mk (Kd.R_below (bR HO_8.out) hb); have n1_ := Aside0.mk (Kd.R_below (bR HO_9.out) hb); have n2_ := Aside0.mk (Kd.R_below (bR HO_47.out) hb); have n3_ := Aside0.mk (Kd.R_below (bR HO346.out) hb); have n4_ := Aside0.mk (below_step (bw HB.out) hb); replace HO_8 := n0_; replace HO_9 := n1_; replace HO_47 := n2_; replace HO346 := n3_; replace HB := n4_; clear n0_ n1_ n2_ n3_ n4_; (try clear hb); (try clear hb2); (try clear hk); (try clear hi)) | ((with_reducible refine gate_builtin (b := .append) (xs := #[.tmp 63, .tmp 65]) rfl ?_); (try (refine gate_guard (by rfl) ?_; dsimp only)); at_builtin; refine Kd.R_append (Kd.int .i64) (w0 := w) w.heap.size rfl (.tmp 63) (.tmp 65) 23 3 (.int .i64 0) 8 rfl Try.underlying23 info3 rfl (by decide) (by omega) u9 x9_2 (rd t336 x49_2) [.int .i64 (rd t336 x49_2)] (fun k_ => some k_ ≠ (.slice (some ad340) t336.length co35 : Value).ownBlock ∧ some k_ ≠ (.slice (some ad340) t336.length co35 : Value).ownBlock ∧ some k_ ≠ (.slice Ao48 t344.length co48 : Value).ownBlock) (fun _ => False) rfl rfl ?aP (fun _ hk => hk.elim) ?aF ?aO ?aB ?aS ?aL ?_; (case aP => exact rfl); (case aB => exact (bw HB.out)); (case aF => exact (fun k_ hk => ⟨Kd.fresh' (Kd.R_lt (bR HO_8.out)) k_ hk, Kd.fresh' (Kd.R_lt (bR HO_47.out)) k_ hk, Kd.fresh' (Kd.R_lt (bR HO346.out)) k_ hk⟩)); (case aO => exact (by (with_reducible repeat (first | apply Kd.R_alloc | apply Kd.R_drewN | apply Kd.R_drew)); exact Kd.R_mono HO_9.out (fun _ hk => ⟨hk.1.1, ⟨hk.1.2, hk.2⟩⟩))); (case aS => exact (below_size (bw HB.out))); (case aL => have := LMc46.out; omega); intro v349 w50 ho hb hg hat; rw [← Ny348.out] at ho; have n0_ := Aside0.mk (Kd.R_after (ok := (fun k_ => some k_ ≠ (.slice Ao48 t344.length co48 : Value).ownBlock)) (by (with_reducible repeat (first | apply Kd.R_alloc | apply Kd.R_drewN | apply Kd.R_drew)); exact Kd.R_mono HO_8.out (fun _ hk => ⟨hk.2, hk.1⟩)) hg hat); have n1_ := Aside0.mk (Kd.R_after (ok := (fun k_ => some k_ ≠ (.slice Ao48 t344.length co48 : Value).ownBlock)) (by (with_reducible repeat (first | apply Kd.R_alloc | apply Kd.R_drewN | apply Kd.R_drew)); exact Kd.R_mono HO_47.out (fun _ hk => ⟨hk.2, hk.1⟩)) hg hat); have n2_ := Aside0.mk (Kd.R_after (ok := (fun k_ => some k_ ≠ (.slice (some ad340) t336.length co35 : Value).ownBlock ∧ some k_ ≠ (.slice (some ad340) t336.length co35 : Value).ownBlock)) (by (with_reducible repeat (first | apply Kd.R_alloc | apply Kd.R_drewN | apply Kd.R_drew)); exact Kd.R_mono HO346.out (fun _ hk => ⟨⟨hk.1.1.2, hk.2⟩, hk.1.2⟩)) hg hat); have n3_ := Aside0.mk (hb); have n4_ := Aside0.mk (ho); clear HO_9; replace HO_8 := n0_; replace HO_47 := n1_; replace HO346 := n2_; replace HB := n3_; have HO350 := n4_; clear n0_ n1_ n2_ n3_ n4_; clear ho hb hg hat))
     go_roundg k2
     case measure => have := HJ3.out; have := HK2.out; omega
     case rel => exact ⟨(y348), (wrap64 (x49_2 + 1)), (by first | rfl | (simp; done) | (simp [*]; done)), H', ⟨by have := HJ3.out; have := HK2.out; omega⟩, ⟨by (with_reducible repeat (first | apply Kd.R_alloc | apply Kd.R_drewN | apply Kd.R_drew)); exact Kd.R_mono HO_8.out (fun _ hk => hk.2)⟩, ⟨by (with_reducible repeat (first | apply Kd.R_alloc | apply Kd.R_drewN | apply Kd.R_drew)); exact Kd.R_mono HO350.out (fun _ hk => ⟨hk.1, hk.2.1⟩)⟩, ⟨by (with_reducible repeat (first | apply Kd.R_alloc | apply Kd.R_drewN | apply Kd.R_drew)); exact Kd.R_mono HO_47.out (fun _ hk => hk.2)⟩, ⟨bw HB.out⟩⟩

end Go.Proofs.Ytcohgnafealcoaa.X
