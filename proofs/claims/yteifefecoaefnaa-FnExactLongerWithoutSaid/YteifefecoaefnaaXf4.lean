-- Written by a program of this session (wip/gen/xp.py, over the kit's printer). Not trusted: Lean checks it.
import Derived.Test.YteifefecoaefnaaX0
import Derived.Test.YteifefecoaefnaaXf12
import Derived.Test.YteifefecoaefnaaXf23
import Derived.Test.YteifefecoaefnaaXf5
import Derived.Test.YteifefecoaefnaaXf8
namespace Go.Proofs.Yteifefecoaefnaa.X
open Go.RowKit Go.Proofs.YteifefecoaefnaaW.PrintWords Go.Proofs.YteifefecoaefnaaW.PrintLast Go.Proofs.YteifefecoaefnaaW.PrintMore
attribute [local go_sem] max2_int min2_int max_two min_two max_three min_three max_four min_four   -- for this text's walks alone
set_option linter.unusedVariables false
set_option linter.unusedSimpArgs false

/-! ### spec_LongerWithout: function 15 -/
abbrev q15_0 : Array Bool := ⟨rl_ [11] false⟩
abbrev q15_8 : Array Bool := ⟨rl_ [4, 1, 4, 2] true⟩
abbrev q15_9 : Array Bool := ⟨rl_ [9, 2] true⟩
abbrev q15_10 : Array Bool := ⟨rl_ [10, 1] true⟩
def spec_LongerWithout.l0 : Nat → List (S46) → Int → List (S37) → List Int → Int → Int → Option (Int × Int × Bool)
 | 0, _, _, _, _, _, _ => none
 | k + 1, x0, x1, x2, x3, x10, x11 => if x11 < (x2.length : Int) then ((some (([] : List (S37)) : List (S37))).bind fun y363 => (if 0 ≤ x11 then (if x11 ≤ (x2.length : Int) then ((some (x2.take (x11 : Int).toNat : List (S37))).bind fun y366 => (if y363.length + y366.length < 8796093022208 then ((some (y363 ++ y366 : List (S37))).bind fun y370 => (if 0 ≤ (wrap64 (x11 + 1)) then (if (wrap64 (x11 + 1)) ≤ (x2.length : Int) then ((some (x2.drop ((wrap64 (x11 + 1)) : Int).toNat : List (S37))).bind fun y373 => (if y370.length + y373.length < 8796093022208 then ((spec_l7List.f k x0 x1 (y370 ++ y373) x3).bind fun t380 => ((spec_l7Length.f k x0 t380).bind fun t383 => (if t383 > x10 then (some ((rd_T37 x2 x11).f0, (rd_T37 x2 x11).f1, true)) else (spec_LongerWithout.l0 k x0 x1 x2 x3 x10 (wrap64 (x11 + 1)))))) else (none))) else (none)) else (none))) else (none))) else (none)) else (none))) else (some (0, 0, false))
def spec_LongerWithout.f (k : Nat) (l0 : List (S46)) (a1 : Int) (l2 : List (S37)) (l3 : List Int) : Option (Int × Int × Bool) := (spec_l7Ordered.f k l0 a1 l2 l3).bind fun t358 => (if t358 = true then ((spec_l7List.f k l0 a1 l2 l3).bind fun t359 => ((spec_l7Length.f k l0 t359).bind fun t362 => (spec_LongerWithout.l0 k l0 a1 l2 l3 t362 0))) else (some (0, 0, false)))
theorem spec_LongerWithout.mono_l : ∀ k, (∀ y0 y1 y2 y3 y4 y5, LeO (spec_LongerWithout.l0 k y0 y1 y2 y3 y4 y5) (spec_LongerWithout.l0 (k + 1) y0 y1 y2 y3 y4 y5))
 | 0 => fun _ _ _ _ _ _ r h => by simp [spec_LongerWithout.l0] at h
 | k + 1 => by
  have ih0 := spec_LongerWithout.mono_l k
  ·intro y0 y1 y2 y3 y4 y5
   unfold spec_LongerWithout.l0
   repeat' first
   | (with_reducible exact ih0 _ _ _ _ _ _)
   | (with_reducible exact spec_l7Length.mono _ _ _)
   | (with_reducible exact spec_l7List.mono _ _ _ _ _)
   | (with_reducible exact spec_l7Ordered.mono _ _ _ _ _)
   | (with_reducible exact LeO.refl _)
   | (with_reducible exact LeO.none _)
   | (with_reducible refine LeO.ite ?_ ?_)
   | (with_reducible refine LeO.bind ?_ (fun _ => ?_))
   | exact ih0 _ _ _ _ _ _
   | exact spec_l7Length.mono _ _ _
   | exact spec_l7List.mono _ _ _ _ _
   | exact spec_l7Ordered.mono _ _ _ _ _
   | exact LeO.none _
   | refine LeO.ite ?_ ?_
   | refine LeO.bind ?_ (fun _ => ?_)
theorem spec_LongerWithout.mono : ∀ a0 a1 a2 a3 k, LeO (spec_LongerWithout.f k a0 a1 a2 a3) (spec_LongerWithout.f (k + 1) a0 a1 a2 a3) := by
 intro a0 a1 a2 a3 k
 have ih0 := spec_LongerWithout.mono_l k
 unfold spec_LongerWithout.f
 repeat' first
   | (with_reducible exact ih0 _ _ _ _ _ _)
   | (with_reducible exact spec_l7Length.mono _ _ _)
   | (with_reducible exact spec_l7List.mono _ _ _ _ _)
   | (with_reducible exact spec_l7Ordered.mono _ _ _ _ _)
   | (with_reducible exact LeO.refl _)
   | (with_reducible exact LeO.none _)
   | (with_reducible refine LeO.ite ?_ ?_)
   | (with_reducible refine LeO.bind ?_ (fun _ => ?_))
   | exact ih0 _ _ _ _ _ _
   | exact spec_l7Length.mono _ _ _
   | exact spec_l7List.mono _ _ _ _ _
   | exact spec_l7Ordered.mono _ _ _ _ _
   | exact LeO.none _
   | refine LeO.ite ?_ ?_
   | refine LeO.bind ?_ (fun _ => ?_)
def spec_LongerWithout.T7 : Bool × List (List Nat × List Nat) := (true, [([], []), ([], []), ([], []), ([1, 2], [1, 2]), ([0, 3], [0, 3]), ([], []), ([], []), ([6], [6]), ([5, 7], [5, 7]), ([4, 8, 4], [4, 8]), ([9, 9, 0, 1, 2, 3, 4, 5, 6, 7, 8, 9], [9])])
def spec_LongerWithout.B7 : List Nat := [0, 0, 0, 6, 15, 0, 0, 64, 224, 511, 1023]
theorem spec_LongerWithout.tab7 : rtab .any (opsOf Try.f15 7) = spec_LongerWithout.T7 := by kernel_rfl
theorem spec_LongerWithout.bits7 : waitsOk spec_LongerWithout.T7.2 spec_LongerWithout.B7 = true := by kernel_rfl
set_option maxHeartbeats 8000000 in
set_option maxRecDepth 100000 in
theorem spec_LongerWithout.calls (k : Nat) (A0 : Option Addr) (c0 : Nat) (l0 : List (S46)) (a1 : Int) (A2 : Option Addr) (c2 : Nat) (l2 : List (S37)) (A3 : Option Addr) (c3 : Nat) (l3 : List Int) (r1 : Int) (r2 : Int) (r3 : Bool) (w : World) (hr0 : Kd.C k46 w A0 l0.length l0) (hc0 : l0.length ≤ c0) (hr2 : Kd.C k37 w A2 l2.length l2) (hc2 : l2.length ≤ c2) (hr3 : Kd.C (Kd.int .i64) w A3 l3.length l3) (hc3 : l3.length ≤ c3) (h : spec_LongerWithout.f k l0 a1 l2 l3 = some (r1, r2, r3)) :
  Calls Try.prog 15 #[.slice A0 l0.length c0, .int .i64 a1, .slice A2 l2.length c2, .slice A3 l3.length c3] w fun e w' => e = .returned (.tuple #[.agg #[.int .i64 r1, .int .i64 r2], .bool r3]) ∧ Below w.heap.size w w' := by
 have hu37 := Try.underlying37
 have HR0 := Aside0.mk hr0
 have HC0 := Aside0.mk hc0
 clear hr0 hc0
 have HR2 := Aside0.mk hr2
 have HC2 := Aside0.mk hc2
 clear hr2 hc2
 have HR3 := Aside0.mk hr3
 have HC3 := Aside0.mk hc3
 clear hr3 hc3
 have HB := Aside0.mk (Below.refl w.heap.size w)
 have H : ((spec_l7Ordered.f k l0 a1 l2 l3).bind fun t358 => (if t358 = true then ((spec_l7List.f k l0 a1 l2 l3).bind fun t359 => ((spec_l7Length.f k l0 t359).bind fun t362 => (spec_LongerWithout.l0 k l0 a1 l2 l3 t362 0))) else (some (0, 0, false)))) = some (r1, r2, r3) := h
 clear h
 replace H := Option.bind_eq_some_iff.mp H
 obtain ⟨t358, A50, H⟩ := H
 replace H : (if t358 = true then ((spec_l7List.f k l0 a1 l2 l3).bind fun t359 => ((spec_l7Length.f k l0 t359).bind fun t362 => (spec_LongerWithout.l0 k l0 a1 l2 l3 t362 0))) else (some (0, 0, false))) = some (r1, r2, r3) := H
 have A5 := Aside0.mk A50
 clear A50
 by_cases c6 : t358 = true
 rotate_left
 ·replace c6 := Bool.eq_false_iff.mpr c6
  subst c6
  have H1 : (some (0, 0, false)) = some (r1, r2, r3) := by rw [if_neg (show ¬ (false = true) by decide)] at H; exact H
  clear H
  have H := H1
  clear H1
  simp only [Option.some.injEq, Prod.mk.injEq] at H
  obtain ⟨rfl, rfl, rfl⟩ := H
  go_enter Try.func15, Try.ntmps15
  go_wp2_with (first | ((with_reducible refine gate_dst (N := 8) rfl ?_); refine box_event ?hg (N := 8) ?hd (cs := #[.int .i64 0, .int .i64 0]) (t := 37) ?hr ?_; (case hd => rfl); (case hg => rfl); (case hr => first | (go_simp; done) | (go_simp; rfl)); intro gb357 hg w46 hbox hb; have n0_ := Aside0.mk (below_step (bw HB.out) hb); have n1_ := Aside0.mk (hbox); have n2_ := ge_ hg HB.out; have n3_ := ge_ hg HB.out; replace HB := n0_; have BK357 := n1_; have GW357 := n2_; have GE357 := n3_; clear n0_ n1_ n2_ n3_; clear hb hbox hg) | ((with_reducible refine gate_callee (f := 18) rfl ?_); refine goesL_ (some 17) rfl rfl Try.func18 (by kernel_rfl) rfl #[.slice A0 l0.length c0, .int .i64 a1, .slice A2 l2.length c2, .slice A3 l3.length c3] rfl (by (try simp only [mA_]); first | done | rfl | (simp only [List.length_drop, List.length_take]; rfl)) ?_; (with_reducible refine (spec_l7Ordered.calls k _ _ l0 a1 _ _ l2 _ _ l3 false _ ?side1 ?side2 ?side3 ?side4 ?side5 ?side6 A5.out).mono ?_); (case side1 => first | exact bC HR0.out HB.out | exact Kd.C_below HR0.out HB.out); (case side2 => exact HC0.out); (case side3 => first | exact bC HR2.out HB.out | exact Kd.C_below HR2.out HB.out); (case side4 => exact HC2.out); (case side5 => first | exact bC HR3.out HB.out | exact Kd.C_below HR3.out HB.out); (case side6 => exact HC3.out); rintro e w47 ⟨rfl, hb⟩; refine ⟨_, rfl, ?_⟩; have n0_ := Aside0.mk (blk_below (bs BK357.out) hb); have n1_ := Aside0.mk (below_step (by repeat (first | (with_reducible first | exact bw HB.out | refine bset ?_ | apply bA | apply bN | apply bD) | exact HB.out)) hb); replace BK357 := n0_; replace HB := n1_; clear n0_ n1_; (try clear hb); (try clear hb2); (try clear hk); (try clear hi); obtain ⟨hcz48_0, hcz48_1, hfz48_0, hfz48_1⟩ := bz2 BK357.out))
  refine bodyPost_ret (results_ct rfl _ _ gb357 37 #[.int .i64 0, .int .i64 0] (0, 0) _ rfl (by (with_reducible repeat (first | refine blk_drewN ?_ _ | refine blk_drew ?_ | refine blk_alloc ?_ _)); refine blk_put (cs := #[.int .i64 0, .int .i64 0]) ?_ 1 _ rfl; (with_reducible repeat (first | refine blk_drewN ?_ _ | refine blk_drew ?_ | refine blk_alloc ?_ _)); refine blk_put (cs := #[.int .i64 0, .int .i64 0]) ?_ 0 _ rfl; exact bs BK357.out) Try.underlying37 rfl (by kernel_rfl)) rfl ?_
  exact ⟨by first | rfl | (simp [errW_none, errW_some] <;> rfl) | (simp [*, errW_none, errW_some] <;> rfl), by repeat (first | (with_reducible first | exact bw HB.out | refine bset ?_ | apply bA | apply bN | apply bD) | exact HB.out)⟩
 subst c6
 have H1 : ((spec_l7List.f k l0 a1 l2 l3).bind fun t359 => ((spec_l7Length.f k l0 t359).bind fun t362 => (spec_LongerWithout.l0 k l0 a1 l2 l3 t362 0))) = some (r1, r2, r3) := by rw [if_pos rfl] at H; exact H
 clear H
 have H := H1
 clear H1
 replace H := Option.bind_eq_some_iff.mp H
 obtain ⟨t359, A70, H⟩ := H
 replace H : ((spec_l7Length.f k l0 t359).bind fun t362 => (spec_LongerWithout.l0 k l0 a1 l2 l3 t362 0)) = some (r1, r2, r3) := H
 have A7 := Aside0.mk A70
 clear A70
 replace H := Option.bind_eq_some_iff.mp H
 obtain ⟨t362, A80, H⟩ := H
 replace H : (spec_LongerWithout.l0 k l0 a1 l2 l3 t362 0) = some (r1, r2, r3) := H
 have A8 := Aside0.mk A80
 clear A80
 have H' := Aside0.mk H
 clear H
 go_enter Try.func15, Try.ntmps15
 go_wp2_with (first | ((with_reducible refine gate_dst (N := 8) rfl ?_); refine box_event ?hg (N := 8) ?hd (cs := #[.int .i64 0, .int .i64 0]) (t := 37) ?hr ?_; (case hd => rfl); (case hg => rfl); (case hr => first | (go_simp; done) | (go_simp; rfl)); intro gb357 hg w9 hbox hb; have n0_ := Aside0.mk (below_step (bw HB.out) hb); have n1_ := Aside0.mk (hbox); have n2_ := ge_ hg HB.out; have n3_ := ge_ hg HB.out; replace HB := n0_; have BK357 := n1_; have GW357 := n2_; have GE357 := n3_; clear n0_ n1_ n2_ n3_; clear hb hbox hg) | ((with_reducible refine gate_callee (f := 18) rfl ?_); refine goesL_ (some 17) rfl rfl Try.func18 (by kernel_rfl) rfl #[.slice A0 l0.length c0, .int .i64 a1, .slice A2 l2.length c2, .slice A3 l3.length c3] rfl (by (try simp only [mA_]); first | done | rfl | (simp only [List.length_drop, List.length_take]; rfl)) ?_; (with_reducible refine (spec_l7Ordered.calls k _ _ l0 a1 _ _ l2 _ _ l3 true _ ?side1 ?side2 ?side3 ?side4 ?side5 ?side6 A5.out).mono ?_); (case side1 => first | exact bC HR0.out HB.out | exact Kd.C_below HR0.out HB.out); (case side2 => exact HC0.out); (case side3 => first | exact bC HR2.out HB.out | exact Kd.C_below HR2.out HB.out); (case side4 => exact HC2.out); (case side5 => first | exact bC HR3.out HB.out | exact Kd.C_below HR3.out HB.out); (case side6 => exact HC3.out); rintro e w10 ⟨rfl, hb⟩; refine ⟨_, rfl, ?_⟩; have n0_ := Aside0.mk (blk_below (bs BK357.out) hb); have n1_ := Aside0.mk (below_step (by repeat (first | (with_reducible first | exact bw HB.out | refine bset ?_ | apply bA | apply bN | apply bD) | exact HB.out)) hb); replace BK357 := n0_; replace HB := n1_; clear n0_ n1_; (try clear hb); (try clear hb2); (try clear hk); (try clear hi)) | ((with_reducible refine gate_callee (f := 20) rfl ?_); refine goesL_ (some 25) rfl rfl Try.func20 (by kernel_rfl) rfl #[.slice A0 l0.length c0, .int .i64 a1, .slice A2 l2.length c2, .slice A3 l3.length c3] rfl (by (try simp only [mA_]); first | done | rfl | (simp only [List.length_drop, List.length_take]; rfl)) ?_; (with_reducible refine (spec_l7List.calls k _ _ l0 a1 _ _ l2 _ _ l3 t359 _ ?side1 ?side2 ?side3 ?side4 ?side5 ?side6 A7.out).mono ?_); (case side1 => first | exact bC HR0.out HB.out | exact Kd.C_below HR0.out HB.out); (case side2 => exact HC0.out); (case side3 => first | exact bC HR2.out HB.out | exact Kd.C_below HR2.out HB.out); (case side4 => exact HC2.out); (case side5 => first | exact bC HR3.out HB.out | exact Kd.C_below HR3.out HB.out); (case side6 => exact HC3.out); rintro e w11 ⟨v360, rfl, ho0, hb⟩; refine ⟨_, rfl, ?_⟩; have n0_ := Aside0.mk (Kd.R_lower ho0 (below_size (by repeat (first | (with_reducible first | exact bw HB.out | refine bset ?_ | apply bA | apply bN | apply bD) | exact HB.out)))); have n1_ := Aside0.mk (blk_below (bs BK357.out) hb); have n2_ := Aside0.mk (below_step (by repeat (first | (with_reducible first | exact bw HB.out | refine bset ?_ | apply bA | apply bN | apply bD) | exact HB.out)) hb); have HO361 := n0_; replace BK357 := n1_; replace HB := n2_; clear n0_ n1_ n2_; (try clear hb); (try clear hb2); (try clear hk); (try clear hi); (try clear ho0); obtain ⟨Ao12, co12, eo12⟩ := Kd.R_slice HO361.out; subst eo12) | ((with_reducible refine gate_callee (f := 19) rfl ?_); refine goesL_ (some 26) rfl rfl Try.func19 (by kernel_rfl) rfl #[.slice A0 l0.length c0, .slice Ao12 t359.length co12] rfl (by (try simp only [mA_]); first | done | rfl | (simp only [List.length_drop, List.length_take]; rfl)) ?_; (with_reducible refine (spec_l7Length.calls k _ _ l0 _ _ t359 t362 _ ?side1 ?side2 ?side3 ?side4 A8.out).mono ?_); (case side1 => first | exact bC HR0.out HB.out | exact Kd.C_below HR0.out HB.out); (case side2 => exact HC0.out); (case side3 => repeat (first | exact (Kd.R_reads' HO361.out).2.2 | (with_reducible refine Kd.C_alloc ?_ _) | (with_reducible refine Kd.C_drewN ?_ _) | (with_reducible refine Kd.C_drew ?_))); (case side4 => exact (Kd.R_reads' HO361.out).2.1); rintro e w' ⟨rfl, ⟨nd, rfl⟩⟩; refine ⟨_, rfl, ?_⟩))
 go_loopg [11] k (fun kq v11 w' => ∃ (x11_1 : Int) (x358000_1 : Int) (x358001_1 : Int), v11 = .int .i64 x11_1 ∧ Aside0 (spec_LongerWithout.l0 kq l0 a1 l2 l3 t362 x11_1 = some (r1, r2, r3)) ∧ Aside0 (kq ≤ k) ∧ Aside0 (w'.heap[gb357]? = some (.cells #[.int .i64 x358000_1, .int .i64 x358001_1] 37 (0, 0))) ∧ Aside0 (Below w.heap.size w w'))
 case atStart => exact ⟨(0), (0), (0), (by first | rfl | (simp; done) | (simp [*]; done)), H', ⟨Nat.le_refl _⟩, ⟨bs BK357.out⟩, ⟨by repeat (first | (with_reducible first | exact bw HB.out | refine bset ?_ | apply bA | apply bN | apply bD) | exact HB.out)⟩⟩
 case round =>
  clear H'
  try clear c1
  try clear c2
  try clear p2
  try clear c3
  try clear c6
  obtain ⟨x11_1, x358000_1, x358001_1, rfl, HA, HK1, BK357, HB⟩ := hrel
  cases gk with
  | zero => exact absurd HA.out (by simp [spec_LongerWithout.l0])
  | succ k1 =>
   have H := HA.out
   clear HA
   simp only [spec_LongerWithout.l0] at H
   by_cases c13 : x11_1 < (l2.length : Int)
   rotate_left
   ·rw [if_neg c13] at H
    have c13b0 : decide (x11_1 < (l2.length : Int)) = false := decide_eq_false c13
    clear c13
    simp only [Option.some.injEq, Prod.mk.injEq] at H
    obtain ⟨rfl, rfl, rfl⟩ := H
    obtain ⟨hcz45_0, hcz45_1, hfz45_0, hfz45_1⟩ := bz2 BK357.out
    go_wp2
    refine bodyPost_ret (results_ct rfl _ _ gb357 37 #[.int .i64 0, .int .i64 0] (0, 0) _ rfl (by (with_reducible repeat (first | refine blk_drewN ?_ _ | refine blk_drew ?_ | refine blk_alloc ?_ _)); refine blk_put (cs := #[.int .i64 0, .int .i64 x358001_1]) ?_ 1 _ rfl; (with_reducible repeat (first | refine blk_drewN ?_ _ | refine blk_drew ?_ | refine blk_alloc ?_ _)); refine blk_put (cs := #[.int .i64 x358000_1, .int .i64 x358001_1]) ?_ 0 _ rfl; exact bs BK357.out) Try.underlying37 rfl (by kernel_rfl)) rfl ?_
    exact ⟨by first | rfl | (simp [errW_none, errW_some] <;> rfl) | (simp [*, errW_none, errW_some] <;> rfl), by repeat (first | (with_reducible first | exact bw HB.out | refine bset ?_ | apply bA | apply bN | apply bD) | exact HB.out)⟩
   rw [if_pos c13] at H
   have c13b0 : decide (x11_1 < (l2.length : Int)) = true := decide_eq_true c13
   clear c13
   obtain ⟨y363, hy363⟩ : ∃ y_ : List (S37), y_ = (([] : List (S37))) := ⟨_, rfl⟩
   replace H : (if 0 ≤ x11_1 then (if x11_1 ≤ (l2.length : Int) then ((some (l2.take (x11_1 : Int).toNat : List (S37))).bind fun y366 => (if y363.length + y366.length < 8796093022208 then ((some (y363 ++ y366 : List (S37))).bind fun y370 => (if 0 ≤ (wrap64 (x11_1 + 1)) then (if (wrap64 (x11_1 + 1)) ≤ (l2.length : Int) then ((some (l2.drop ((wrap64 (x11_1 + 1)) : Int).toNat : List (S37))).bind fun y373 => (if y370.length + y373.length < 8796093022208 then ((spec_l7List.f k1 l0 a1 (y370 ++ y373) l3).bind fun t380 => ((spec_l7Length.f k1 l0 t380).bind fun t383 => (if t383 > t362 then (some ((rd_T37 l2 x11_1).f0, (rd_T37 l2 x11_1).f1, true)) else (spec_LongerWithout.l0 k1 l0 a1 l2 l3 t362 (wrap64 (x11_1 + 1)))))) else (none))) else (none)) else (none))) else (none))) else (none)) else (none)) = some (r1, r2, r3) := by first | (rw [hy363]; with_reducible exact H) | (have H2_ := (Option.bind_some _ _).symm.trans H; rw [hy363]; with_reducible exact H2_) | (have H2_ := (Option.bind_some _ _).symm.trans H; with_reducible exact H2_) | with_reducible exact H | (rw [hy363]; exact H) | exact H
   have Ny363 := Aside0.mk hy363
   clear hy363
   by_cases c14 : 0 ≤ x11_1
   rotate_left
   ·rw [if_neg c14] at H
    exact absurd H (by simp)
   rw [if_pos c14] at H
   have c14b0 := eq_true c14
   have c14b1 : decide (0 ≤ x11_1) = true := decide_eq_true c14
   clear c14
   by_cases c15 : x11_1 ≤ (l2.length : Int)
   rotate_left
   ·rw [if_neg c15] at H
    exact absurd H (by simp)
   rw [if_pos c15] at H
   have c15b0 := eq_true c15
   have c15b1 : decide (x11_1 ≤ (l2.length : Int)) = true := decide_eq_true c15
   clear c15
   obtain ⟨y366, hy366⟩ : ∃ y_ : List (S37), y_ = (l2.take (x11_1 : Int).toNat) := ⟨_, rfl⟩
   replace H : (if y363.length + y366.length < 8796093022208 then ((some (y363 ++ y366 : List (S37))).bind fun y370 => (if 0 ≤ (wrap64 (x11_1 + 1)) then (if (wrap64 (x11_1 + 1)) ≤ (l2.length : Int) then ((some (l2.drop ((wrap64 (x11_1 + 1)) : Int).toNat : List (S37))).bind fun y373 => (if y370.length + y373.length < 8796093022208 then ((spec_l7List.f k1 l0 a1 (y370 ++ y373) l3).bind fun t380 => ((spec_l7Length.f k1 l0 t380).bind fun t383 => (if t383 > t362 then (some ((rd_T37 l2 x11_1).f0, (rd_T37 l2 x11_1).f1, true)) else (spec_LongerWithout.l0 k1 l0 a1 l2 l3 t362 (wrap64 (x11_1 + 1)))))) else (none))) else (none)) else (none))) else (none)) = some (r1, r2, r3) := by first | (rw [hy366]; with_reducible exact H) | (have H2_ := (Option.bind_some _ _).symm.trans H; rw [hy366]; with_reducible exact H2_) | (have H2_ := (Option.bind_some _ _).symm.trans H; with_reducible exact H2_) | with_reducible exact H | (rw [hy366]; exact H) | exact H
   have Ny366 := Aside0.mk hy366
   clear hy366
   by_cases c16 : y363.length + y366.length < 8796093022208
   rotate_left
   ·rw [if_neg c16] at H
    exact absurd H (by simp)
   rw [if_pos c16] at H
   have LMc16 := Aside0.mk c16
   clear c16
   obtain ⟨y370, hy370⟩ : ∃ y_ : List (S37), y_ = (y363 ++ y366) := ⟨_, rfl⟩
   replace H : (if 0 ≤ (wrap64 (x11_1 + 1)) then (if (wrap64 (x11_1 + 1)) ≤ (l2.length : Int) then ((some (l2.drop ((wrap64 (x11_1 + 1)) : Int).toNat : List (S37))).bind fun y373 => (if y370.length + y373.length < 8796093022208 then ((spec_l7List.f k1 l0 a1 (y370 ++ y373) l3).bind fun t380 => ((spec_l7Length.f k1 l0 t380).bind fun t383 => (if t383 > t362 then (some ((rd_T37 l2 x11_1).f0, (rd_T37 l2 x11_1).f1, true)) else (spec_LongerWithout.l0 k1 l0 a1 l2 l3 t362 (wrap64 (x11_1 + 1)))))) else (none))) else (none)) else (none)) = some (r1, r2, r3) := by first | (rw [hy370]; with_reducible exact H) | (have H2_ := (Option.bind_some _ _).symm.trans H; rw [hy370]; with_reducible exact H2_) | (have H2_ := (Option.bind_some _ _).symm.trans H; with_reducible exact H2_) | with_reducible exact H | (rw [hy370]; exact H) | exact H
   have Ny370 := Aside0.mk hy370
   clear hy370
   obtain ⟨ji17, hji17⟩ : ∃ j_ : Int, (wrap64 (x11_1 + 1)) = j_ := ⟨_, rfl⟩
   replace H : (if 0 ≤ (ji17) then (if (ji17) ≤ (l2.length : Int) then ((some (l2.drop ((ji17) : Int).toNat : List (S37))).bind fun y373 => (if y370.length + y373.length < 8796093022208 then ((spec_l7List.f k1 l0 a1 (y370 ++ y373) l3).bind fun t380 => ((spec_l7Length.f k1 l0 t380).bind fun t383 => (if t383 > t362 then (some ((rd_T37 l2 x11_1).f0, (rd_T37 l2 x11_1).f1, true)) else (spec_LongerWithout.l0 k1 l0 a1 l2 l3 t362 ji17)))) else (none))) else (none)) else (none)) = some (r1, r2, r3) := by first | (rw [hji17] at H; exact H) | (simp only [hji17] at H ⊢; exact H)
   have hji17w : (IntKind.i64.wrap (x11_1 + 1)) = ji17 := (i64_w _).trans hji17
   by_cases c18 : 0 ≤ (ji17)
   rotate_left
   ·rw [if_neg c18] at H
    exact absurd H (by simp)
   rw [if_pos c18] at H
   have c18b0 := eq_true c18
   have c18b1 : decide (0 ≤ (ji17)) = true := decide_eq_true c18
   clear c18
   by_cases c19 : (ji17) ≤ (l2.length : Int)
   rotate_left
   ·rw [if_neg c19] at H
    exact absurd H (by simp)
   rw [if_pos c19] at H
   have c19b0 := eq_true c19
   have c19b1 : decide ((ji17) ≤ (l2.length : Int)) = true := decide_eq_true c19
   clear c19
   obtain ⟨y373, hy373⟩ : ∃ y_ : List (S37), y_ = (l2.drop ((ji17) : Int).toNat) := ⟨_, rfl⟩
   replace H : (if y370.length + y373.length < 8796093022208 then ((spec_l7List.f k1 l0 a1 (y370 ++ y373) l3).bind fun t380 => ((spec_l7Length.f k1 l0 t380).bind fun t383 => (if t383 > t362 then (some ((rd_T37 l2 x11_1).f0, (rd_T37 l2 x11_1).f1, true)) else (spec_LongerWithout.l0 k1 l0 a1 l2 l3 t362 ji17)))) else (none)) = some (r1, r2, r3) := by first | (rw [hy373]; with_reducible exact H) | (have H2_ := (Option.bind_some _ _).symm.trans H; rw [hy373]; with_reducible exact H2_) | (have H2_ := (Option.bind_some _ _).symm.trans H; with_reducible exact H2_) | with_reducible exact H | (rw [hy373]; exact H) | exact H
   have Ny373 := Aside0.mk hy373
   clear hy373
   by_cases c20 : y370.length + y373.length < 8796093022208
   rotate_left
   ·rw [if_neg c20] at H
    exact absurd H (by simp)
   rw [if_pos c20] at H
   have LMc20 := Aside0.mk c20
   clear c20
   obtain ⟨y377, hy377⟩ : ∃ y_ : List (S37), y_ = (y370 ++ y373) := ⟨_, rfl⟩
   replace H : ((spec_l7List.f k1 l0 a1 y377 l3).bind fun t380 => ((spec_l7Length.f k1 l0 t380).bind fun t383 => (if t383 > t362 then (some ((rd_T37 l2 x11_1).f0, (rd_T37 l2 x11_1).f1, true)) else (spec_LongerWithout.l0 k1 l0 a1 l2 l3 t362 ji17)))) = some (r1, r2, r3) := by first | (rw [hy377]; with_reducible exact H) | (have H2_ := (Option.bind_some _ _).symm.trans H; rw [hy377]; with_reducible exact H2_) | (have H2_ := (Option.bind_some _ _).symm.trans H; with_reducible exact H2_) | with_reducible exact H | (rw [hy377]; exact H) | exact H
   have Ny377 := Aside0.mk hy377
   clear hy377
   replace H := Option.bind_eq_some_iff.mp H
   obtain ⟨t380, A210, H⟩ := H
   replace H : ((spec_l7Length.f k1 l0 t380).bind fun t383 => (if t383 > t362 then (some ((rd_T37 l2 x11_1).f0, (rd_T37 l2 x11_1).f1, true)) else (spec_LongerWithout.l0 k1 l0 a1 l2 l3 t362 ji17))) = some (r1, r2, r3) := H
   have A21 := Aside0.mk A210
   clear A210
   replace H := Option.bind_eq_some_iff.mp H
   obtain ⟨t383, A220, H⟩ := H
   replace H : (if t383 > t362 then (some ((rd_T37 l2 x11_1).f0, (rd_T37 l2 x11_1).f1, true)) else (spec_LongerWithout.l0 k1 l0 a1 l2 l3 t362 ji17)) = some (r1, r2, r3) := H
   have A22 := Aside0.mk A220
   clear A220
   by_cases c23 : t383 > t362
   rotate_left
   ·rw [if_neg c23] at H
    have c23b0 : decide (t362 < t383) = false := decide_eq_false c23
    clear c23
    have H' := Aside0.mk H
    clear H
    try go_wp2
    have n0_ := Aside0.mk (blk_drew BK357.out)
    have n1_ := Aside0.mk (below_drew1 HB.out)
    replace BK357 := n0_
    replace HB := n1_
    clear n0_ n1_
    have q36 : (x11_1 : Int) ≤ ((l2.length : Int) : Int) := of_decide_eq_true (by first | (with_reducible assumption) | assumption)
    obtain ⟨i036, hi036, _, hsz36, _⟩ := info_parts info37
    have hroom36 : l2.length ≤ c2 := HC2.out
    have hC36 : Kd.C k37 _ A2 l2.length l2 := HR2.out
    have hcut36 := cut_to (P := Try.prog) 23 37 .i64 Try.underlying23 hi036 A2 l2.length c2 x11_1 (of_decide_eq_true (by first | (with_reducible assumption) | assumption)) q36 hroom36
    have hr36 := Kd.C_take (m := (x11_1 : Int).toNat) hC36 (by omega)
    have hy36 : y366.length = (x11_1 : Int).toNat := (by rw [Ny366.out, List.length_take]; omega)
    rw [← Ny366.out] at hr36
    rw [← hy36] at hcut36
    have HR369 := Aside0.mk hr36
    have HC369 := Aside0.mk (show y366.length ≤ c2 from by omega)
    clear hr36 hC36 hroom36 hi036 hsz36
    have KY36 := Aside0.mk hy36
    clear hy36
    replace q36 := eq_true q36
    have q37 : ((ji17) : Int) ≤ ((l2.length : Int) : Int) := of_decide_eq_true (by first | (with_reducible assumption) | assumption)
    obtain ⟨i037, hi037, _, hsz37, _⟩ := info_parts info37
    have hroom37 : l2.length ≤ c2 := HC2.out
    have hC37 : Kd.C k37 _ A2 l2.length l2 := HR2.out
    have q037 : (0 : Int) ≤ ((ji17) : Int) := of_decide_eq_true (by first | (with_reducible assumption) | assumption)
    have hcut37 := cut_from (P := Try.prog) 23 37 .i64 Try.underlying23 hi037 2 hsz37 A2 l2.length c2 (ji17) q037 q37
    have hr37 := Kd.C_drop (m := ((ji17) : Int).toNat) (c := c2) hC37 (by omega) hroom37
    obtain ⟨A37, hA37⟩ : ∃ A1, A1 = (if c2 = ((ji17) : Int).toNat then A2 else (A2 : Option Addr).map (·.add (((ji17) : Int).toNat * 2))) := ⟨_, rfl⟩
    obtain ⟨c37, hc37⟩ : ∃ c1, c1 = c2 - ((ji17) : Int).toNat := ⟨_, rfl⟩
    have hy37 : y373.length = l2.length - ((ji17) : Int).toNat := (by rw [Ny373.out, List.length_drop] <;> omega)
    rw [show (l2).drop ((ji17) : Int).toNat = y373 from Ny373.out.symm] at hr37
    replace hr37 : Kd.C k37 _ A37 y373.length y373 := (by rw [hA37]; exact hr37)
    rw [← hy37, ← hA37, ← hc37] at hcut37
    have HR376 := Aside0.mk hr37
    have HC376 := Aside0.mk (show y373.length ≤ c37 from by rw [hy37, hc37]; exact Nat.sub_le_sub_right hroom37 _)
    clear hr37 hC37 hroom37 hi037 hsz37 hc37
    have KY37 := Aside0.mk hy37
    have KA37 := Aside0.mk hA37
    clear hy37 hA37
    replace q37 := eq_true q37
    refine start_ (n := 11) (S := fun w' => True) (ds := []) q15_0 (by kernel_rfl) rfl rfl trivial (fun hHeld => ?_); refine with_tabW spec_LongerWithout.tab7 spec_LongerWithout.bits7 (fun HT_ HW_ => ?_)
    generalize wr.drew = w35 at BK357 HB HR369 HR376 hHeld ⊢
    refine pw_ HT_ 1 (some 34) ?_
    refine pw_ HT_ 2 (some 35) ?_
    refine pw_ HT_ 3 (some 36) ?_
    refine pw_ HT_ 5 (some 38) ?_
    refine pw_ HT_ 6 (some 39) ?_
    refine pw_ HT_ 7 (some 40) ?_
    refine pw_ HT_ 8 (some 41) ?_
    refine one_ (i := 0) (N := some 33) q15_8 rfl rfl (one_of HT_.out (by kernel_rfl)) (by decide) (fun K hK => ?_)
    refine Kd.R_lit_step k37 _ 37 ?hg (N := 33) ?hd (xs := ([] : List (S37))) (inner := []) (ok := fun _ => True) (okp := fun _ => True) ?hr ?hp (fun _ hk => hk) trivial (Below.refl _ _) (Nat.le_refl _) (by simp) ?_; (case hd => rfl); (case hg => rfl); (case hr => first | (go_simp; done) | (go_simp; rfl)); (case hp => exact (Reps.none _ _))
    intro v364 w38 ho39 hb hg_ hnew_
    clear hg_ hnew_
    (first | rw [← Ny363.out] at ho39 | (simp only [Int.reduceToNat] at ho39; rw [← Ny363.out] at ho39))
    have n0_ := Aside0.mk (Kd.R_lower (Kd.R_newB ho39 (bs BK357.out)) (below_size (by repeat (first | (with_reducible first | exact bw HB.out | refine bset ?_ | apply bA | apply bN | apply bD) | exact HB.out))))
    have n1_ := Aside0.mk (blk_below (bs BK357.out) hb)
    have n2_ := Aside0.mk (below_step (by repeat (first | (with_reducible first | exact bw HB.out | refine bset ?_ | apply bA | apply bN | apply bD) | exact HB.out)) hb)
    have HO365 := n0_
    replace BK357 := n1_
    replace HB := n2_
    clear n0_ n1_ n2_
    clear hb ho39
    refine hK.out _ _ trivial (fun hHeld => ?_)
    clear hK K
    refine norm_ (a' := ?_) ?_ ?_
    rotate_left
    ·show Act.put _ (some 33) _ = _
     simp only [aq_]
     rfl
    refine one_ (i := 4) (N := some 37) q15_9 rfl rfl (one_of HT_.out (by kernel_rfl)) (by decide) (fun K hK => ?_)
    refine Kd.R_append_rows_step k37 (w0 := w) w.heap.size (by rfl) (.tmp 33) (.tmp 36) 23 37 (.agg #[(.int .i64 0), (.int .i64 0)]) 16 rfl Try.underlying23 info37 rfl (by decide) (by omega) v364 y363 y366 _ _ _ (fun k_ => k_ ≠ gb357) (fun _ => False) rfl rfl ?aO ?aR (fun _ _ h => h) (fun _ h => h.elim) ?aF ?aB ?aS ?aL ?_
    (case aR => first | exact bC HR369.out HB.out | exact Kd.C_below HR369.out HB.out)
    (case aB => exact (by repeat (first | (with_reducible first | exact bw HB.out | refine bset ?_ | apply bA | apply bN | apply bD) | exact HB.out)))
    (case aF => exact (fun k_ hk => Kd.freshB (bs BK357.out) k_ hk))
    (case aO => exact (by (with_reducible repeat (first | apply Kd.R_alloc | apply Kd.R_drewN | apply Kd.R_drew)); exact Kd.R_mono HO365.out (fun _ hk => hk.2)))
    (case aS => exact (below_size (by repeat (first | (with_reducible first | exact bw HB.out | refine bset ?_ | apply bA | apply bN | apply bD) | exact HB.out))))
    (case aL => have := LMc16.out; omega)
    intro v371 w40 ho hb hg hat
    rw [← Ny370.out] at ho
    have n0_ := Aside0.mk (blk_grown (bs BK357.out) hg (Kd.R_away HO365.out (fun _ hk => hk.2)))
    have n1_ := Aside0.mk (hb)
    have n2_ := Aside0.mk (ho)
    clear HO365
    replace BK357 := n0_
    replace HB := n1_
    have HO372 := n2_
    clear n0_ n1_ n2_
    clear ho hb hg hat
    refine hK.out _ _ trivial (fun hHeld => ?_)
    clear hK K
    refine norm_ (a' := ?_) ?_ ?_
    rotate_left
    ·show Act.put _ (some 37) _ = _
     simp only [aq_]
     rfl
    refine one_ (i := 9) (N := some 42) q15_10 rfl rfl (one_of HT_.out (by kernel_rfl)) (by decide) (fun K hK => ?_)
    refine Kd.R_append_rows_step k37 (w0 := w) w.heap.size (by rfl) (.tmp 37) (.tmp 41) 23 37 (.agg #[(.int .i64 0), (.int .i64 0)]) 16 rfl Try.underlying23 info37 rfl (by decide) (by omega) v371 y370 y373 _ _ _ (fun k_ => k_ ≠ gb357) (fun _ => False) rfl rfl ?aO ?aR (fun _ _ h => h) (fun _ h => h.elim) ?aF ?aB ?aS ?aL ?_
    (case aR => first | exact bC HR376.out HB.out | exact Kd.C_below HR376.out HB.out)
    (case aB => exact (by repeat (first | (with_reducible first | exact bw HB.out | refine bset ?_ | apply bA | apply bN | apply bD) | exact HB.out)))
    (case aF => exact (fun k_ hk => Kd.freshB (bs BK357.out) k_ hk))
    (case aO => exact (bR HO372.out))
    (case aS => exact (below_size (by repeat (first | (with_reducible first | exact bw HB.out | refine bset ?_ | apply bA | apply bN | apply bD) | exact HB.out))))
    (case aL => have := LMc20.out; omega)
    intro v378 w41 ho hb hg hat
    rw [← Ny377.out] at ho
    have n0_ := Aside0.mk (blk_grown (bs BK357.out) hg (Kd.R_away HO372.out (fun _ hk => hk)))
    have n1_ := Aside0.mk (hb)
    have n2_ := Aside0.mk (ho)
    clear HO372
    replace BK357 := n0_
    replace HB := n1_
    have HO379 := n2_
    clear n0_ n1_ n2_
    clear ho hb hg hat
    refine hK.out _ _ trivial (fun hHeld => ?_)
    clear hK K
    refine norm_ (a' := ?_) ?_ ?_
    rotate_left
    ·show Act.put _ (some 42) _ = _
     simp only [aq_]
     rfl
    refine pw_ HT_ 10 (some 12) ?_
    refine done_ (done_of HT_.out (by kernel_rfl)) ?_
    obtain ⟨Ao42, co42, eo42⟩ := Kd.R_slice HO379.out
    subst eo42
    try go_wp2_with (first | ((with_reducible refine gate_callee (f := 20) rfl ?_); refine goesL_ (some 48) rfl rfl Try.func20 (by kernel_rfl) rfl #[.slice A0 l0.length c0, .int .i64 a1, .slice Ao42 y377.length co42, .slice A3 l3.length c3] rfl (by (try simp only [mA_]); first | done | rfl | (simp only [List.length_drop, List.length_take]; rfl)) ?_; (with_reducible refine (spec_l7List.calls k1 _ _ l0 a1 _ _ y377 _ _ l3 t380 _ ?side1 ?side2 ?side3 ?side4 ?side5 ?side6 A21.out).mono ?_); (case side1 => first | exact bC HR0.out HB.out | exact Kd.C_below HR0.out HB.out); (case side2 => exact HC0.out); (case side3 => repeat (first | exact (Kd.R_reads' HO379.out).2.2 | (with_reducible refine Kd.C_alloc ?_ _) | (with_reducible refine Kd.C_drewN ?_ _) | (with_reducible refine Kd.C_drew ?_))); (case side4 => exact (Kd.R_reads' HO379.out).2.1); (case side5 => first | exact bC HR3.out HB.out | exact Kd.C_below HR3.out HB.out); (case side6 => exact HC3.out); rintro e w43 ⟨v381, rfl, ho0, hb⟩; refine ⟨_, rfl, ?_⟩; have n0_ := Aside0.mk (Kd.R_below (bR HO379.out) hb); have n1_ := Aside0.mk (Kd.R_lower ho0 (below_size (by repeat (first | (with_reducible first | exact bw HB.out | refine bset ?_ | apply bA | apply bN | apply bD) | exact HB.out)))); have n2_ := Aside0.mk (blk_below (bs BK357.out) hb); have n3_ := Aside0.mk (below_step (by repeat (first | (with_reducible first | exact bw HB.out | refine bset ?_ | apply bA | apply bN | apply bD) | exact HB.out)) hb); replace HO379 := n0_; have HO382 := n1_; replace BK357 := n2_; replace HB := n3_; clear n0_ n1_ n2_ n3_; (try clear hb); (try clear hb2); (try clear hk); (try clear hi); (try clear ho0); obtain ⟨Ao44, co44, eo44⟩ := Kd.R_slice HO382.out; subst eo44) | ((with_reducible refine gate_callee (f := 19) rfl ?_); refine goesL_ (some 49) rfl rfl Try.func19 (by kernel_rfl) rfl #[.slice A0 l0.length c0, .slice Ao44 t380.length co44] rfl (by (try simp only [mA_]); first | done | rfl | (simp only [List.length_drop, List.length_take]; rfl)) ?_; (with_reducible refine (spec_l7Length.calls k1 _ _ l0 _ _ t380 t383 _ ?side1 ?side2 ?side3 ?side4 A22.out).mono ?_); (case side1 => first | exact bC HR0.out HB.out | exact Kd.C_below HR0.out HB.out); (case side2 => exact HC0.out); (case side3 => repeat (first | exact (Kd.R_reads' HO382.out).2.2 | (with_reducible refine Kd.C_alloc ?_ _) | (with_reducible refine Kd.C_drewN ?_ _) | (with_reducible refine Kd.C_drew ?_))); (case side4 => exact (Kd.R_reads' HO382.out).2.1); rintro e w' ⟨rfl, ⟨nd, rfl⟩⟩; refine ⟨_, rfl, ?_⟩))
    go_roundg k1
    case measure => have := HK1.out; omega
    case rel => exact ⟨(ji17), (x358000_1), (x358001_1), (by first | rfl | (simp; done) | (simp only [← hji17] <;> (first | rfl | simp)) | (simp [*]; done)), H', ⟨by have := HK1.out; omega⟩, ⟨bs BK357.out⟩, ⟨by repeat (first | (with_reducible first | exact bw HB.out | refine bset ?_ | apply bA | apply bN | apply bD) | exact HB.out)⟩⟩
   rw [if_pos c23] at H
   have c23b0 : decide (t362 < t383) = true := decide_eq_true c23
   clear c23
   simp only [Option.some.injEq, Prod.mk.injEq] at H
   obtain ⟨rfl, rfl, rfl⟩ := H
   try go_wp2
   have n0_ := Aside0.mk (blk_drew BK357.out)
   have n1_ := Aside0.mk (below_drew1 HB.out)
   replace BK357 := n0_
   replace HB := n1_
   clear n0_ n1_
   have q25 : (x11_1 : Int) ≤ ((l2.length : Int) : Int) := of_decide_eq_true (by first | (with_reducible assumption) | assumption)
   obtain ⟨i025, hi025, _, hsz25, _⟩ := info_parts info37
   have hroom25 : l2.length ≤ c2 := HC2.out
   have hC25 : Kd.C k37 _ A2 l2.length l2 := HR2.out
   have hcut25 := cut_to (P := Try.prog) 23 37 .i64 Try.underlying23 hi025 A2 l2.length c2 x11_1 (of_decide_eq_true (by first | (with_reducible assumption) | assumption)) q25 hroom25
   have hr25 := Kd.C_take (m := (x11_1 : Int).toNat) hC25 (by omega)
   have hy25 : y366.length = (x11_1 : Int).toNat := (by rw [Ny366.out, List.length_take]; omega)
   rw [← Ny366.out] at hr25
   rw [← hy25] at hcut25
   have HR369 := Aside0.mk hr25
   have HC369 := Aside0.mk (show y366.length ≤ c2 from by omega)
   clear hr25 hC25 hroom25 hi025 hsz25
   have KY25 := Aside0.mk hy25
   clear hy25
   replace q25 := eq_true q25
   have q26 : ((ji17) : Int) ≤ ((l2.length : Int) : Int) := of_decide_eq_true (by first | (with_reducible assumption) | assumption)
   obtain ⟨i026, hi026, _, hsz26, _⟩ := info_parts info37
   have hroom26 : l2.length ≤ c2 := HC2.out
   have hC26 : Kd.C k37 _ A2 l2.length l2 := HR2.out
   have q026 : (0 : Int) ≤ ((ji17) : Int) := of_decide_eq_true (by first | (with_reducible assumption) | assumption)
   have hcut26 := cut_from (P := Try.prog) 23 37 .i64 Try.underlying23 hi026 2 hsz26 A2 l2.length c2 (ji17) q026 q26
   have hr26 := Kd.C_drop (m := ((ji17) : Int).toNat) (c := c2) hC26 (by omega) hroom26
   obtain ⟨A26, hA26⟩ : ∃ A1, A1 = (if c2 = ((ji17) : Int).toNat then A2 else (A2 : Option Addr).map (·.add (((ji17) : Int).toNat * 2))) := ⟨_, rfl⟩
   obtain ⟨c26, hc26⟩ : ∃ c1, c1 = c2 - ((ji17) : Int).toNat := ⟨_, rfl⟩
   have hy26 : y373.length = l2.length - ((ji17) : Int).toNat := (by rw [Ny373.out, List.length_drop] <;> omega)
   rw [show (l2).drop ((ji17) : Int).toNat = y373 from Ny373.out.symm] at hr26
   replace hr26 : Kd.C k37 _ A26 y373.length y373 := (by rw [hA26]; exact hr26)
   rw [← hy26, ← hA26, ← hc26] at hcut26
   have HR376 := Aside0.mk hr26
   have HC376 := Aside0.mk (show y373.length ≤ c26 from by rw [hy26, hc26]; exact Nat.sub_le_sub_right hroom26 _)
   clear hr26 hC26 hroom26 hi026 hsz26 hc26
   have KY26 := Aside0.mk hy26
   have KA26 := Aside0.mk hA26
   clear hy26 hA26
   replace q26 := eq_true q26
   refine start_ (n := 11) (S := fun w' => True) (ds := []) q15_0 (by kernel_rfl) rfl rfl trivial (fun hHeld => ?_); refine with_tabW spec_LongerWithout.tab7 spec_LongerWithout.bits7 (fun HT_ HW_ => ?_)
   generalize wr.drew = w24 at BK357 HB HR369 HR376 hHeld ⊢
   refine pw_ HT_ 1 (some 34) ?_
   refine pw_ HT_ 2 (some 35) ?_
   refine pw_ HT_ 3 (some 36) ?_
   refine pw_ HT_ 5 (some 38) ?_
   refine pw_ HT_ 6 (some 39) ?_
   refine pw_ HT_ 7 (some 40) ?_
   refine pw_ HT_ 8 (some 41) ?_
   refine one_ (i := 0) (N := some 33) q15_8 rfl rfl (one_of HT_.out (by kernel_rfl)) (by decide) (fun K hK => ?_)
   refine Kd.R_lit_step k37 _ 37 ?hg (N := 33) ?hd (xs := ([] : List (S37))) (inner := []) (ok := fun _ => True) (okp := fun _ => True) ?hr ?hp (fun _ hk => hk) trivial (Below.refl _ _) (Nat.le_refl _) (by simp) ?_; (case hd => rfl); (case hg => rfl); (case hr => first | (go_simp; done) | (go_simp; rfl)); (case hp => exact (Reps.none _ _))
   intro v364 w27 ho28 hb hg_ hnew_
   clear hg_ hnew_
   (first | rw [← Ny363.out] at ho28 | (simp only [Int.reduceToNat] at ho28; rw [← Ny363.out] at ho28))
   have n0_ := Aside0.mk (Kd.R_lower (Kd.R_newB ho28 (bs BK357.out)) (below_size (by repeat (first | (with_reducible first | exact bw HB.out | refine bset ?_ | apply bA | apply bN | apply bD) | exact HB.out))))
   have n1_ := Aside0.mk (blk_below (bs BK357.out) hb)
   have n2_ := Aside0.mk (below_step (by repeat (first | (with_reducible first | exact bw HB.out | refine bset ?_ | apply bA | apply bN | apply bD) | exact HB.out)) hb)
   have HO365 := n0_
   replace BK357 := n1_
   replace HB := n2_
   clear n0_ n1_ n2_
   clear hb ho28
   refine hK.out _ _ trivial (fun hHeld => ?_)
   clear hK K
   refine norm_ (a' := ?_) ?_ ?_
   rotate_left
   ·show Act.put _ (some 33) _ = _
    simp only [aq_]
    rfl
   refine one_ (i := 4) (N := some 37) q15_9 rfl rfl (one_of HT_.out (by kernel_rfl)) (by decide) (fun K hK => ?_)
   refine Kd.R_append_rows_step k37 (w0 := w) w.heap.size (by rfl) (.tmp 33) (.tmp 36) 23 37 (.agg #[(.int .i64 0), (.int .i64 0)]) 16 rfl Try.underlying23 info37 rfl (by decide) (by omega) v364 y363 y366 _ _ _ (fun k_ => k_ ≠ gb357) (fun _ => False) rfl rfl ?aO ?aR (fun _ _ h => h) (fun _ h => h.elim) ?aF ?aB ?aS ?aL ?_
   (case aR => first | exact bC HR369.out HB.out | exact Kd.C_below HR369.out HB.out)
   (case aB => exact (by repeat (first | (with_reducible first | exact bw HB.out | refine bset ?_ | apply bA | apply bN | apply bD) | exact HB.out)))
   (case aF => exact (fun k_ hk => Kd.freshB (bs BK357.out) k_ hk))
   (case aO => exact (by (with_reducible repeat (first | apply Kd.R_alloc | apply Kd.R_drewN | apply Kd.R_drew)); exact Kd.R_mono HO365.out (fun _ hk => hk.2)))
   (case aS => exact (below_size (by repeat (first | (with_reducible first | exact bw HB.out | refine bset ?_ | apply bA | apply bN | apply bD) | exact HB.out))))
   (case aL => have := LMc16.out; omega)
   intro v371 w29 ho hb hg hat
   rw [← Ny370.out] at ho
   have n0_ := Aside0.mk (blk_grown (bs BK357.out) hg (Kd.R_away HO365.out (fun _ hk => hk.2)))
   have n1_ := Aside0.mk (hb)
   have n2_ := Aside0.mk (ho)
   clear HO365
   replace BK357 := n0_
   replace HB := n1_
   have HO372 := n2_
   clear n0_ n1_ n2_
   clear ho hb hg hat
   refine hK.out _ _ trivial (fun hHeld => ?_)
   clear hK K
   refine norm_ (a' := ?_) ?_ ?_
   rotate_left
   ·show Act.put _ (some 37) _ = _
    simp only [aq_]
    rfl
   refine one_ (i := 9) (N := some 42) q15_10 rfl rfl (one_of HT_.out (by kernel_rfl)) (by decide) (fun K hK => ?_)
   refine Kd.R_append_rows_step k37 (w0 := w) w.heap.size (by rfl) (.tmp 37) (.tmp 41) 23 37 (.agg #[(.int .i64 0), (.int .i64 0)]) 16 rfl Try.underlying23 info37 rfl (by decide) (by omega) v371 y370 y373 _ _ _ (fun k_ => k_ ≠ gb357) (fun _ => False) rfl rfl ?aO ?aR (fun _ _ h => h) (fun _ h => h.elim) ?aF ?aB ?aS ?aL ?_
   (case aR => first | exact bC HR376.out HB.out | exact Kd.C_below HR376.out HB.out)
   (case aB => exact (by repeat (first | (with_reducible first | exact bw HB.out | refine bset ?_ | apply bA | apply bN | apply bD) | exact HB.out)))
   (case aF => exact (fun k_ hk => Kd.freshB (bs BK357.out) k_ hk))
   (case aO => exact (bR HO372.out))
   (case aS => exact (below_size (by repeat (first | (with_reducible first | exact bw HB.out | refine bset ?_ | apply bA | apply bN | apply bD) | exact HB.out))))
   (case aL => have := LMc20.out; omega)
   intro v378 w30 ho hb hg hat
   rw [← Ny377.out] at ho
   have n0_ := Aside0.mk (blk_grown (bs BK357.out) hg (Kd.R_away HO372.out (fun _ hk => hk)))
   have n1_ := Aside0.mk (hb)
   have n2_ := Aside0.mk (ho)
   clear HO372
   replace BK357 := n0_
   replace HB := n1_
   have HO379 := n2_
   clear n0_ n1_ n2_
   clear ho hb hg hat
   refine hK.out _ _ trivial (fun hHeld => ?_)
   clear hK K
   refine norm_ (a' := ?_) ?_ ?_
   rotate_left
   ·show Act.put _ (some 42) _ = _
    simp only [aq_]
    rfl
   refine pw_ HT_ 10 (some 12) ?_
   refine done_ (done_of HT_.out (by kernel_rfl)) ?_
   obtain ⟨Ao31, co31, eo31⟩ := Kd.R_slice HO379.out
   subst eo31
   try go_wp2_with (first | ((with_reducible refine gate_callee (f := 20) rfl ?_); refine goesL_ (some 48) rfl rfl Try.func20 (by kernel_rfl) rfl #[.slice A0 l0.length c0, .int .i64 a1, .slice Ao31 y377.length co31, .slice A3 l3.length c3] rfl (by (try simp only [mA_]); first | done | rfl | (simp only [List.length_drop, List.length_take]; rfl)) ?_; (with_reducible refine (spec_l7List.calls k1 _ _ l0 a1 _ _ y377 _ _ l3 t380 _ ?side1 ?side2 ?side3 ?side4 ?side5 ?side6 A21.out).mono ?_); (case side1 => first | exact bC HR0.out HB.out | exact Kd.C_below HR0.out HB.out); (case side2 => exact HC0.out); (case side3 => repeat (first | exact (Kd.R_reads' HO379.out).2.2 | (with_reducible refine Kd.C_alloc ?_ _) | (with_reducible refine Kd.C_drewN ?_ _) | (with_reducible refine Kd.C_drew ?_))); (case side4 => exact (Kd.R_reads' HO379.out).2.1); (case side5 => first | exact bC HR3.out HB.out | exact Kd.C_below HR3.out HB.out); (case side6 => exact HC3.out); rintro e w32 ⟨v381, rfl, ho0, hb⟩; refine ⟨_, rfl, ?_⟩; have n0_ := Aside0.mk (Kd.R_below (bR HO379.out) hb); have n1_ := Aside0.mk (Kd.R_lower ho0 (below_size (by repeat (first | (with_reducible first | exact bw HB.out | refine bset ?_ | apply bA | apply bN | apply bD) | exact HB.out)))); have n2_ := Aside0.mk (blk_below (bs BK357.out) hb); have n3_ := Aside0.mk (below_step (by repeat (first | (with_reducible first | exact bw HB.out | refine bset ?_ | apply bA | apply bN | apply bD) | exact HB.out)) hb); replace HO379 := n0_; have HO382 := n1_; replace BK357 := n2_; replace HB := n3_; clear n0_ n1_ n2_ n3_; (try clear hb); (try clear hb2); (try clear hk); (try clear hi); (try clear ho0); obtain ⟨Ao33, co33, eo33⟩ := Kd.R_slice HO382.out; subst eo33) | ((with_reducible refine gate_callee (f := 19) rfl ?_); refine goesL_ (some 49) rfl rfl Try.func19 (by kernel_rfl) rfl #[.slice A0 l0.length c0, .slice Ao33 t380.length co33] rfl (by (try simp only [mA_]); first | done | rfl | (simp only [List.length_drop, List.length_take]; rfl)) ?_; (with_reducible refine (spec_l7Length.calls k1 _ _ l0 _ _ t380 t383 _ ?side1 ?side2 ?side3 ?side4 A22.out).mono ?_); (case side1 => first | exact bC HR0.out HB.out | exact Kd.C_below HR0.out HB.out); (case side2 => exact HC0.out); (case side3 => repeat (first | exact (Kd.R_reads' HO382.out).2.2 | (with_reducible refine Kd.C_alloc ?_ _) | (with_reducible refine Kd.C_drewN ?_ _) | (with_reducible refine Kd.C_drew ?_))); (case side4 => exact (Kd.R_reads' HO382.out).2.1); rintro e w' ⟨rfl, ⟨nd, rfl⟩⟩; refine ⟨_, rfl, ?_⟩; (try (rw [drewN_self w32]; generalize hq_ : World.drewN w32 _ = w32; have n0_ : Aside0 (Kd.R k37 37 w32 w.heap.size (fun k_ => k_ ≠ gb357) (.slice Ao31 y377.length co31) y377) := ⟨by rw [← hq_]; exact (bR HO379.out)⟩; have n1_ : Aside0 (Kd.R k55 55 w32 w.heap.size (fun _ => True) (.slice Ao33 t380.length co33) t380) := ⟨by rw [← hq_]; exact (bR HO382.out)⟩; have n2_ : Aside0 (w32.heap[gb357]? = some (.cells #[.int .i64 x358000_1, .int .i64 x358001_1] 37 (0, 0))) := ⟨by rw [← hq_]; exact (bs BK357.out)⟩; have n3_ : Aside0 (Below w.heap.size w w32) := ⟨by rw [← hq_]; exact (by repeat (first | (with_reducible first | exact bw HB.out | refine bset ?_ | apply bA | apply bN | apply bD) | exact HB.out))⟩; (try replace hx384_0 := cell_at hq_ hx384_0); (try replace hx384_1 := cell_at hq_ hx384_1); clear HO379 HO382 BK357 HB hq_; have HO379 := n0_; have HO382 := n1_; have BK357 := n2_; have HB := n3_; clear n0_ n1_ n2_ n3_)); have p384 : 0 ≤ (x11_1 : Int) := of_decide_eq_true (by first | (with_reducible assumption) | assumption); have q384 : x11_1 < (l2.length : Int) := of_decide_eq_true (by first | (with_reducible assumption) | assumption); obtain ⟨ad384, e384, hx384_0, hx384_1⟩ := at_T37 HR2.out x11_1 p384 q384; cases e384; replace hx384_0 := (HB.out.cell (World.block_lt_of_cell? w _ hx384_0)).trans hx384_0; replace hx384_1 := (HB.out.cell (World.block_lt_of_cell? w _ hx384_1)).trans hx384_1; replace p384 := eq_true p384; replace q384 := eq_true q384; obtain ⟨hcz34_0, hcz34_1, hfz34_0, hfz34_1⟩ := bz2 BK357.out))
   refine bodyPost_ret (results_ct rfl _ _ gb357 37 #[.int .i64 ((rd_T37 l2 x11_1).f0), .int .i64 ((rd_T37 l2 x11_1).f1)] (0, 0) _ rfl (by (with_reducible repeat (first | refine blk_drewN ?_ _ | refine blk_drew ?_ | refine blk_alloc ?_ _)); refine blk_put (cs := #[.int .i64 ((rd_T37 l2 x11_1).f0), .int .i64 x358001_1]) ?_ 1 _ rfl; (with_reducible repeat (first | refine blk_drewN ?_ _ | refine blk_drew ?_ | refine blk_alloc ?_ _)); refine blk_put (cs := #[.int .i64 x358000_1, .int .i64 x358001_1]) ?_ 0 _ rfl; exact bs BK357.out) Try.underlying37 rfl (by kernel_rfl)) rfl ?_
   exact ⟨by first | rfl | (simp [errW_none, errW_some] <;> rfl) | (simp only [← hji17]; first | rfl | (simp [errW_none, errW_some] <;> rfl)) | (simp [*, errW_none, errW_some] <;> rfl), by repeat (first | (with_reducible first | exact bw HB.out | refine bset ?_ | apply bA | apply bN | apply bD) | exact HB.out)⟩

/-! ### impl_LongerWithout: function 16 -/
abbrev q16_0 : Array Bool := ⟨rl_ [11] false⟩
abbrev q16_8 : Array Bool := ⟨rl_ [4, 1, 4, 2] true⟩
abbrev q16_9 : Array Bool := ⟨rl_ [9, 2] true⟩
abbrev q16_10 : Array Bool := ⟨rl_ [10, 1] true⟩
def impl_LongerWithout.l0 : Nat → List (S46) → Int → List (S37) → List Int → Int → List (S37) → Int → Int → Option (Int × Int × Bool)
 | 0, _, _, _, _, _, _, _, _ => none
 | k + 1, x0, x1, x2, x3, x10, x28, x29, x30 => if x30 < x29 then (if 0 ≤ x30 then (if x30 < (x28.length : Int) then ((some (([] : List (S37)) : List (S37))).bind fun y393 => (if x30 ≤ (x2.length : Int) then ((some (x2.take (x30 : Int).toNat : List (S37))).bind fun y396 => (if y393.length + y396.length < 8796093022208 then ((some (y393 ++ y396 : List (S37))).bind fun y400 => (if 0 ≤ (wrap64 (x30 + 1)) then (if (wrap64 (x30 + 1)) ≤ (x2.length : Int) then ((some (x2.drop ((wrap64 (x30 + 1)) : Int).toNat : List (S37))).bind fun y403 => (if y400.length + y403.length < 8796093022208 then ((impl_listPlan.f k x0 x1 (y400 ++ y403) x3).bind fun t410 => ((impl_planLength.f k x0 t410).bind fun t413 => (if t413 > x10 then (some ((rd_T37 x28 x30).f0, (rd_T37 x28 x30).f1, true)) else (impl_LongerWithout.l0 k x0 x1 x2 x3 x10 x28 x29 (wrap64 (x30 + 1)))))) else (none))) else (none)) else (none))) else (none))) else (none))) else (none)) else (none)) else (some (0, 0, false))
def impl_LongerWithout.f (k : Nat) (l0 : List (S46)) (a1 : Int) (l2 : List (S37)) (l3 : List Int) : Option (Int × Int × Bool) := (impl_isListed.f k l0 a1 l2 l3).bind fun t386 => (if t386 = true then ((impl_listPlan.f k l0 a1 l2 l3).bind fun t387 => ((impl_planLength.f k l0 t387).bind fun t390 => (impl_LongerWithout.l0 k l0 a1 l2 l3 t390 l2 (l2.length : Int) 0))) else (some (0, 0, false)))
theorem impl_LongerWithout.mono_l : ∀ k, (∀ y0 y1 y2 y3 y4 y5 y6 y7, LeO (impl_LongerWithout.l0 k y0 y1 y2 y3 y4 y5 y6 y7) (impl_LongerWithout.l0 (k + 1) y0 y1 y2 y3 y4 y5 y6 y7))
 | 0 => fun _ _ _ _ _ _ _ _ r h => by simp [impl_LongerWithout.l0] at h
 | k + 1 => by
  have ih0 := impl_LongerWithout.mono_l k
  ·intro y0 y1 y2 y3 y4 y5 y6 y7
   unfold impl_LongerWithout.l0
   repeat' first
   | (with_reducible exact ih0 _ _ _ _ _ _ _ _)
   | (with_reducible exact impl_isListed.mono _ _ _ _ _)
   | (with_reducible exact impl_listPlan.mono _ _ _ _ _)
   | (with_reducible exact impl_planLength.mono _ _ _)
   | (with_reducible exact LeO.refl _)
   | (with_reducible exact LeO.none _)
   | (with_reducible refine LeO.ite ?_ ?_)
   | (with_reducible refine LeO.bind ?_ (fun _ => ?_))
   | exact ih0 _ _ _ _ _ _ _ _
   | exact impl_isListed.mono _ _ _ _ _
   | exact impl_listPlan.mono _ _ _ _ _
   | exact impl_planLength.mono _ _ _
   | exact LeO.none _
   | refine LeO.ite ?_ ?_
   | refine LeO.bind ?_ (fun _ => ?_)
theorem impl_LongerWithout.mono : ∀ a0 a1 a2 a3 k, LeO (impl_LongerWithout.f k a0 a1 a2 a3) (impl_LongerWithout.f (k + 1) a0 a1 a2 a3) := by
 intro a0 a1 a2 a3 k
 have ih0 := impl_LongerWithout.mono_l k
 unfold impl_LongerWithout.f
 repeat' first
   | (with_reducible exact ih0 _ _ _ _ _ _ _ _)
   | (with_reducible exact impl_isListed.mono _ _ _ _ _)
   | (with_reducible exact impl_listPlan.mono _ _ _ _ _)
   | (with_reducible exact impl_planLength.mono _ _ _)
   | (with_reducible exact LeO.refl _)
   | (with_reducible exact LeO.none _)
   | (with_reducible refine LeO.ite ?_ ?_)
   | (with_reducible refine LeO.bind ?_ (fun _ => ?_))
   | exact ih0 _ _ _ _ _ _ _ _
   | exact impl_isListed.mono _ _ _ _ _
   | exact impl_listPlan.mono _ _ _ _ _
   | exact impl_planLength.mono _ _ _
   | exact LeO.none _
   | refine LeO.ite ?_ ?_
   | refine LeO.bind ?_ (fun _ => ?_)
def impl_LongerWithout.T7 : Bool × List (List Nat × List Nat) := (true, [([], []), ([], []), ([], []), ([1, 2], [1, 2]), ([0, 3], [0, 3]), ([], []), ([], []), ([6], [6]), ([5, 7], [5, 7]), ([4, 8, 4], [4, 8]), ([9, 9, 0, 1, 2, 3, 4, 5, 6, 7, 8, 9], [9])])
def impl_LongerWithout.B7 : List Nat := [0, 0, 0, 6, 15, 0, 0, 64, 224, 511, 1023]
theorem impl_LongerWithout.tab7 : rtab .any (opsOf Try.f16 7) = impl_LongerWithout.T7 := by kernel_rfl
theorem impl_LongerWithout.bits7 : waitsOk impl_LongerWithout.T7.2 impl_LongerWithout.B7 = true := by kernel_rfl
set_option maxHeartbeats 8000000 in
set_option maxRecDepth 100000 in
theorem impl_LongerWithout.calls (k : Nat) (A0 : Option Addr) (c0 : Nat) (l0 : List (S46)) (a1 : Int) (A2 : Option Addr) (c2 : Nat) (l2 : List (S37)) (A3 : Option Addr) (c3 : Nat) (l3 : List Int) (r1 : Int) (r2 : Int) (r3 : Bool) (w : World) (hr0 : Kd.C k46 w A0 l0.length l0) (hc0 : l0.length ≤ c0) (hr2 : Kd.C k37 w A2 l2.length l2) (hc2 : l2.length ≤ c2) (hr3 : Kd.C (Kd.int .i64) w A3 l3.length l3) (hc3 : l3.length ≤ c3) (h : impl_LongerWithout.f k l0 a1 l2 l3 = some (r1, r2, r3)) :
  Calls Try.prog 16 #[.slice A0 l0.length c0, .int .i64 a1, .slice A2 l2.length c2, .slice A3 l3.length c3] w fun e w' => e = .returned (.tuple #[.agg #[.int .i64 r1, .int .i64 r2], .bool r3]) ∧ Below w.heap.size w w' := by
 have hu37 := Try.underlying37
 have HR0 := Aside0.mk hr0
 have HC0 := Aside0.mk hc0
 clear hr0 hc0
 have HR2 := Aside0.mk hr2
 have HC2 := Aside0.mk hc2
 clear hr2 hc2
 have HR3 := Aside0.mk hr3
 have HC3 := Aside0.mk hc3
 clear hr3 hc3
 have HB := Aside0.mk (Below.refl w.heap.size w)
 have H : ((impl_isListed.f k l0 a1 l2 l3).bind fun t386 => (if t386 = true then ((impl_listPlan.f k l0 a1 l2 l3).bind fun t387 => ((impl_planLength.f k l0 t387).bind fun t390 => (impl_LongerWithout.l0 k l0 a1 l2 l3 t390 l2 (l2.length : Int) 0))) else (some (0, 0, false)))) = some (r1, r2, r3) := h
 clear h
 replace H := Option.bind_eq_some_iff.mp H
 obtain ⟨t386, A50, H⟩ := H
 replace H : (if t386 = true then ((impl_listPlan.f k l0 a1 l2 l3).bind fun t387 => ((impl_planLength.f k l0 t387).bind fun t390 => (impl_LongerWithout.l0 k l0 a1 l2 l3 t390 l2 (l2.length : Int) 0))) else (some (0, 0, false))) = some (r1, r2, r3) := H
 have A5 := Aside0.mk A50
 clear A50
 by_cases c6 : t386 = true
 rotate_left
 ·replace c6 := Bool.eq_false_iff.mpr c6
  subst c6
  have H1 : (some (0, 0, false)) = some (r1, r2, r3) := by rw [if_neg (show ¬ (false = true) by decide)] at H; exact H
  clear H
  have H := H1
  clear H1
  simp only [Option.some.injEq, Prod.mk.injEq] at H
  obtain ⟨rfl, rfl, rfl⟩ := H
  go_enter Try.func16, Try.ntmps16
  go_wp2_with (first | ((with_reducible refine gate_dst (N := 8) rfl ?_); refine box_event ?hg (N := 8) ?hd (cs := #[.int .i64 0, .int .i64 0]) (t := 37) ?hr ?_; (case hd => rfl); (case hg => rfl); (case hr => first | (go_simp; done) | (go_simp; rfl)); intro gb385 hg w60 hbox hb; have n0_ := Aside0.mk (below_step (bw HB.out) hb); have n1_ := Aside0.mk (hbox); have n2_ := ge_ hg HB.out; have n3_ := ge_ hg HB.out; replace HB := n0_; have BK385 := n1_; have GW385 := n2_; have GE385 := n3_; clear n0_ n1_ n2_ n3_; clear hb hbox hg) | ((with_reducible refine gate_callee (f := 23) rfl ?_); refine goesL_ (some 18) rfl rfl Try.func23 (by kernel_rfl) rfl #[.slice A0 l0.length c0, .int .i64 a1, .slice A2 l2.length c2, .slice A3 l3.length c3] rfl (by (try simp only [mA_]); first | done | rfl | (simp only [List.length_drop, List.length_take]; rfl)) ?_; (with_reducible refine (impl_isListed.calls k _ _ l0 a1 _ _ l2 _ _ l3 false _ ?side1 ?side2 ?side3 ?side4 ?side5 ?side6 A5.out).mono ?_); (case side1 => first | exact bC HR0.out HB.out | exact Kd.C_below HR0.out HB.out); (case side2 => exact HC0.out); (case side3 => first | exact bC HR2.out HB.out | exact Kd.C_below HR2.out HB.out); (case side4 => exact HC2.out); (case side5 => first | exact bC HR3.out HB.out | exact Kd.C_below HR3.out HB.out); (case side6 => exact HC3.out); rintro e w61 ⟨rfl, hb⟩; refine ⟨_, rfl, ?_⟩; have n0_ := Aside0.mk (blk_below (bs BK385.out) hb); have n1_ := Aside0.mk (below_step (by repeat (first | (with_reducible first | exact bw HB.out | refine bset ?_ | apply bA | apply bN | apply bD) | exact HB.out)) hb); replace BK385 := n0_; replace HB := n1_; clear n0_ n1_; (try clear hb); (try clear hb2); (try clear hk); (try clear hi); obtain ⟨hcz62_0, hcz62_1, hfz62_0, hfz62_1⟩ := bz2 BK385.out))
  refine bodyPost_ret (results_ct rfl _ _ gb385 37 #[.int .i64 0, .int .i64 0] (0, 0) _ rfl (by (with_reducible repeat (first | refine blk_drewN ?_ _ | refine blk_drew ?_ | refine blk_alloc ?_ _)); refine blk_put (cs := #[.int .i64 0, .int .i64 0]) ?_ 1 _ rfl; (with_reducible repeat (first | refine blk_drewN ?_ _ | refine blk_drew ?_ | refine blk_alloc ?_ _)); refine blk_put (cs := #[.int .i64 0, .int .i64 0]) ?_ 0 _ rfl; exact bs BK385.out) Try.underlying37 rfl (by kernel_rfl)) rfl ?_
  exact ⟨by first | rfl | (simp [errW_none, errW_some] <;> rfl) | (simp [*, errW_none, errW_some] <;> rfl), by repeat (first | (with_reducible first | exact bw HB.out | refine bset ?_ | apply bA | apply bN | apply bD) | exact HB.out)⟩
 subst c6
 have H1 : ((impl_listPlan.f k l0 a1 l2 l3).bind fun t387 => ((impl_planLength.f k l0 t387).bind fun t390 => (impl_LongerWithout.l0 k l0 a1 l2 l3 t390 l2 (l2.length : Int) 0))) = some (r1, r2, r3) := by rw [if_pos rfl] at H; exact H
 clear H
 have H := H1
 clear H1
 replace H := Option.bind_eq_some_iff.mp H
 obtain ⟨t387, A70, H⟩ := H
 replace H : ((impl_planLength.f k l0 t387).bind fun t390 => (impl_LongerWithout.l0 k l0 a1 l2 l3 t390 l2 (l2.length : Int) 0)) = some (r1, r2, r3) := H
 have A7 := Aside0.mk A70
 clear A70
 replace H := Option.bind_eq_some_iff.mp H
 obtain ⟨t390, A80, H⟩ := H
 replace H : (impl_LongerWithout.l0 k l0 a1 l2 l3 t390 l2 (l2.length : Int) 0) = some (r1, r2, r3) := H
 have A8 := Aside0.mk A80
 clear A80
 have H' := Aside0.mk H
 clear H
 go_enter Try.func16, Try.ntmps16
 go_wp2_with (first | ((with_reducible refine gate_dst (N := 8) rfl ?_); refine box_event ?hg (N := 8) ?hd (cs := #[.int .i64 0, .int .i64 0]) (t := 37) ?hr ?_; (case hd => rfl); (case hg => rfl); (case hr => first | (go_simp; done) | (go_simp; rfl)); intro gb385 hg w9 hbox hb; have n0_ := Aside0.mk (below_step (bw HB.out) hb); have n1_ := Aside0.mk (hbox); have n2_ := ge_ hg HB.out; have n3_ := ge_ hg HB.out; replace HB := n0_; have BK385 := n1_; have GW385 := n2_; have GE385 := n3_; clear n0_ n1_ n2_ n3_; clear hb hbox hg) | ((with_reducible refine gate_callee (f := 23) rfl ?_); refine goesL_ (some 18) rfl rfl Try.func23 (by kernel_rfl) rfl #[.slice A0 l0.length c0, .int .i64 a1, .slice A2 l2.length c2, .slice A3 l3.length c3] rfl (by (try simp only [mA_]); first | done | rfl | (simp only [List.length_drop, List.length_take]; rfl)) ?_; (with_reducible refine (impl_isListed.calls k _ _ l0 a1 _ _ l2 _ _ l3 true _ ?side1 ?side2 ?side3 ?side4 ?side5 ?side6 A5.out).mono ?_); (case side1 => first | exact bC HR0.out HB.out | exact Kd.C_below HR0.out HB.out); (case side2 => exact HC0.out); (case side3 => first | exact bC HR2.out HB.out | exact Kd.C_below HR2.out HB.out); (case side4 => exact HC2.out); (case side5 => first | exact bC HR3.out HB.out | exact Kd.C_below HR3.out HB.out); (case side6 => exact HC3.out); rintro e w10 ⟨rfl, hb⟩; refine ⟨_, rfl, ?_⟩; have n0_ := Aside0.mk (blk_below (bs BK385.out) hb); have n1_ := Aside0.mk (below_step (by repeat (first | (with_reducible first | exact bw HB.out | refine bset ?_ | apply bA | apply bN | apply bD) | exact HB.out)) hb); replace BK385 := n0_; replace HB := n1_; clear n0_ n1_; (try clear hb); (try clear hb2); (try clear hk); (try clear hi)) | ((with_reducible refine gate_callee (f := 25) rfl ?_); refine goesL_ (some 26) rfl rfl Try.func25 (by kernel_rfl) rfl #[.slice A0 l0.length c0, .int .i64 a1, .slice A2 l2.length c2, .slice A3 l3.length c3] rfl (by (try simp only [mA_]); first | done | rfl | (simp only [List.length_drop, List.length_take]; rfl)) ?_; (with_reducible refine (impl_listPlan.calls k _ _ l0 a1 _ _ l2 _ _ l3 t387 _ ?side1 ?side2 ?side3 ?side4 ?side5 ?side6 A7.out).mono ?_); (case side1 => first | exact bC HR0.out HB.out | exact Kd.C_below HR0.out HB.out); (case side2 => exact HC0.out); (case side3 => first | exact bC HR2.out HB.out | exact Kd.C_below HR2.out HB.out); (case side4 => exact HC2.out); (case side5 => first | exact bC HR3.out HB.out | exact Kd.C_below HR3.out HB.out); (case side6 => exact HC3.out); rintro e w11 ⟨v388, rfl, ho0, hb⟩; refine ⟨_, rfl, ?_⟩; have n0_ := Aside0.mk (Kd.R_lower ho0 (below_size (by repeat (first | (with_reducible first | exact bw HB.out | refine bset ?_ | apply bA | apply bN | apply bD) | exact HB.out)))); have n1_ := Aside0.mk (blk_below (bs BK385.out) hb); have n2_ := Aside0.mk (below_step (by repeat (first | (with_reducible first | exact bw HB.out | refine bset ?_ | apply bA | apply bN | apply bD) | exact HB.out)) hb); have HO389 := n0_; replace BK385 := n1_; replace HB := n2_; clear n0_ n1_ n2_; (try clear hb); (try clear hb2); (try clear hk); (try clear hi); (try clear ho0); obtain ⟨Ao12, co12, eo12⟩ := Kd.R_slice HO389.out; subst eo12) | ((with_reducible refine gate_callee (f := 24) rfl ?_); refine goesL_ (some 27) rfl rfl Try.func24 (by kernel_rfl) rfl #[.slice A0 l0.length c0, .slice Ao12 t387.length co12] rfl (by (try simp only [mA_]); first | done | rfl | (simp only [List.length_drop, List.length_take]; rfl)) ?_; (with_reducible refine (impl_planLength.calls k _ _ l0 _ _ t387 t390 _ ?side1 ?side2 ?side3 ?side4 A8.out).mono ?_); (case side1 => first | exact bC HR0.out HB.out | exact Kd.C_below HR0.out HB.out); (case side2 => exact HC0.out); (case side3 => repeat (first | exact (Kd.R_reads' HO389.out).2.2 | (with_reducible refine Kd.C_alloc ?_ _) | (with_reducible refine Kd.C_drewN ?_ _) | (with_reducible refine Kd.C_drew ?_))); (case side4 => exact (Kd.R_reads' HO389.out).2.1); rintro e w13 ⟨rfl, hb⟩; refine ⟨_, rfl, ?_⟩; have n0_ := Aside0.mk (Kd.R_below (bR HO389.out) hb); have n1_ := Aside0.mk (blk_below (bs BK385.out) hb); have n2_ := Aside0.mk (below_step (by repeat (first | (with_reducible first | exact bw HB.out | refine bset ?_ | apply bA | apply bN | apply bD) | exact HB.out)) hb); replace HO389 := n0_; replace BK385 := n1_; replace HB := n2_; clear n0_ n1_ n2_; (try clear hb); (try clear hb2); (try clear hk); (try clear hi)))
 go_loopg [30] k (fun kq v30 w' => ∃ (x30_1 : Int) (x386000_1 : Int) (x386001_1 : Int), v30 = .int .i64 x30_1 ∧ Aside0 (impl_LongerWithout.l0 kq l0 a1 l2 l3 t390 l2 (l2.length : Int) x30_1 = some (r1, r2, r3)) ∧ Aside0 (kq ≤ k) ∧ Aside0 (w'.heap[gb385]? = some (.cells #[.int .i64 x386000_1, .int .i64 x386001_1] 37 (0, 0))) ∧ Aside0 (Below w.heap.size w w'))
 case atStart => exact ⟨(0), (0), (0), (by first | rfl | (simp; done) | (simp [*]; done)), H', ⟨Nat.le_refl _⟩, ⟨bs BK385.out⟩, ⟨by repeat (first | (with_reducible first | exact bw HB.out | refine bset ?_ | apply bA | apply bN | apply bD) | exact HB.out)⟩⟩
 case round =>
  clear H'
  try clear c1
  try clear c2
  try clear p2
  try clear c3
  try clear c6
  obtain ⟨x30_1, x386000_1, x386001_1, rfl, HA, HK1, BK385, HB⟩ := hrel
  cases gk with
  | zero => exact absurd HA.out (by simp [impl_LongerWithout.l0])
  | succ k1 =>
   have H := HA.out
   clear HA
   simp only [impl_LongerWithout.l0] at H
   by_cases c14 : x30_1 < (l2.length : Int)
   rotate_left
   ·rw [if_neg c14] at H
    have c14b0 : decide (x30_1 < (l2.length : Int)) = false := decide_eq_false c14
    clear c14
    simp only [Option.some.injEq, Prod.mk.injEq] at H
    obtain ⟨rfl, rfl, rfl⟩ := H
    obtain ⟨hcz59_0, hcz59_1, hfz59_0, hfz59_1⟩ := bz2 BK385.out
    go_wp2
    refine bodyPost_ret (results_ct rfl _ _ gb385 37 #[.int .i64 0, .int .i64 0] (0, 0) _ rfl (by (with_reducible repeat (first | refine blk_drewN ?_ _ | refine blk_drew ?_ | refine blk_alloc ?_ _)); refine blk_put (cs := #[.int .i64 0, .int .i64 x386001_1]) ?_ 1 _ rfl; (with_reducible repeat (first | refine blk_drewN ?_ _ | refine blk_drew ?_ | refine blk_alloc ?_ _)); refine blk_put (cs := #[.int .i64 x386000_1, .int .i64 x386001_1]) ?_ 0 _ rfl; exact bs BK385.out) Try.underlying37 rfl (by kernel_rfl)) rfl ?_
    exact ⟨by first | rfl | (simp [errW_none, errW_some] <;> rfl) | (simp [*, errW_none, errW_some] <;> rfl), by repeat (first | (with_reducible first | exact bw HB.out | refine bset ?_ | apply bA | apply bN | apply bD) | exact HB.out)⟩
   rw [if_pos c14] at H
   have c14b0 : decide (x30_1 < (l2.length : Int)) = true := decide_eq_true c14
   clear c14
   by_cases c15 : 0 ≤ x30_1
   rotate_left
   ·rw [if_neg c15] at H
    exact absurd H (by simp)
   rw [if_pos c15] at H
   have c15b0 : decide (0 ≤ x30_1) = true := decide_eq_true c15
   clear c15
   by_cases c16 : x30_1 < (l2.length : Int)
   rotate_left
   ·rw [if_neg c16] at H
    exact absurd H (by simp)
   rw [if_pos c16] at H
   have c16b0 : decide (x30_1 < (l2.length : Int)) = true := decide_eq_true c16
   clear c16
   obtain ⟨y393, hy393⟩ : ∃ y_ : List (S37), y_ = (([] : List (S37))) := ⟨_, rfl⟩
   replace H : (if x30_1 ≤ (l2.length : Int) then ((some (l2.take (x30_1 : Int).toNat : List (S37))).bind fun y396 => (if y393.length + y396.length < 8796093022208 then ((some (y393 ++ y396 : List (S37))).bind fun y400 => (if 0 ≤ (wrap64 (x30_1 + 1)) then (if (wrap64 (x30_1 + 1)) ≤ (l2.length : Int) then ((some (l2.drop ((wrap64 (x30_1 + 1)) : Int).toNat : List (S37))).bind fun y403 => (if y400.length + y403.length < 8796093022208 then ((impl_listPlan.f k1 l0 a1 (y400 ++ y403) l3).bind fun t410 => ((impl_planLength.f k1 l0 t410).bind fun t413 => (if t413 > t390 then (some ((rd_T37 l2 x30_1).f0, (rd_T37 l2 x30_1).f1, true)) else (impl_LongerWithout.l0 k1 l0 a1 l2 l3 t390 l2 (l2.length : Int) (wrap64 (x30_1 + 1)))))) else (none))) else (none)) else (none))) else (none))) else (none)) = some (r1, r2, r3) := by first | (rw [hy393]; with_reducible exact H) | (have H2_ := (Option.bind_some _ _).symm.trans H; rw [hy393]; with_reducible exact H2_) | (have H2_ := (Option.bind_some _ _).symm.trans H; with_reducible exact H2_) | with_reducible exact H | (rw [hy393]; exact H) | exact H
   have Ny393 := Aside0.mk hy393
   clear hy393
   have c17b0 := eq_true (of_decide_eq_true (by first | (with_reducible assumption) | assumption) : 0 ≤ x30_1)
   by_cases c18 : x30_1 ≤ (l2.length : Int)
   rotate_left
   ·rw [if_neg c18] at H
    exact absurd H (by simp)
   rw [if_pos c18] at H
   have c18b0 := eq_true c18
   have c18b1 : decide (x30_1 ≤ (l2.length : Int)) = true := decide_eq_true c18
   clear c18
   obtain ⟨y396, hy396⟩ : ∃ y_ : List (S37), y_ = (l2.take (x30_1 : Int).toNat) := ⟨_, rfl⟩
   replace H : (if y393.length + y396.length < 8796093022208 then ((some (y393 ++ y396 : List (S37))).bind fun y400 => (if 0 ≤ (wrap64 (x30_1 + 1)) then (if (wrap64 (x30_1 + 1)) ≤ (l2.length : Int) then ((some (l2.drop ((wrap64 (x30_1 + 1)) : Int).toNat : List (S37))).bind fun y403 => (if y400.length + y403.length < 8796093022208 then ((impl_listPlan.f k1 l0 a1 (y400 ++ y403) l3).bind fun t410 => ((impl_planLength.f k1 l0 t410).bind fun t413 => (if t413 > t390 then (some ((rd_T37 l2 x30_1).f0, (rd_T37 l2 x30_1).f1, true)) else (impl_LongerWithout.l0 k1 l0 a1 l2 l3 t390 l2 (l2.length : Int) (wrap64 (x30_1 + 1)))))) else (none))) else (none)) else (none))) else (none)) = some (r1, r2, r3) := by first | (rw [hy396]; with_reducible exact H) | (have H2_ := (Option.bind_some _ _).symm.trans H; rw [hy396]; with_reducible exact H2_) | (have H2_ := (Option.bind_some _ _).symm.trans H; with_reducible exact H2_) | with_reducible exact H | (rw [hy396]; exact H) | exact H
   have Ny396 := Aside0.mk hy396
   clear hy396
   by_cases c19 : y393.length + y396.length < 8796093022208
   rotate_left
   ·rw [if_neg c19] at H
    exact absurd H (by simp)
   rw [if_pos c19] at H
   have LMc19 := Aside0.mk c19
   clear c19
   obtain ⟨y400, hy400⟩ : ∃ y_ : List (S37), y_ = (y393 ++ y396) := ⟨_, rfl⟩
   replace H : (if 0 ≤ (wrap64 (x30_1 + 1)) then (if (wrap64 (x30_1 + 1)) ≤ (l2.length : Int) then ((some (l2.drop ((wrap64 (x30_1 + 1)) : Int).toNat : List (S37))).bind fun y403 => (if y400.length + y403.length < 8796093022208 then ((impl_listPlan.f k1 l0 a1 (y400 ++ y403) l3).bind fun t410 => ((impl_planLength.f k1 l0 t410).bind fun t413 => (if t413 > t390 then (some ((rd_T37 l2 x30_1).f0, (rd_T37 l2 x30_1).f1, true)) else (impl_LongerWithout.l0 k1 l0 a1 l2 l3 t390 l2 (l2.length : Int) (wrap64 (x30_1 + 1)))))) else (none))) else (none)) else (none)) = some (r1, r2, r3) := by first | (rw [hy400]; with_reducible exact H) | (have H2_ := (Option.bind_some _ _).symm.trans H; rw [hy400]; with_reducible exact H2_) | (have H2_ := (Option.bind_some _ _).symm.trans H; with_reducible exact H2_) | with_reducible exact H | (rw [hy400]; exact H) | exact H
   have Ny400 := Aside0.mk hy400
   clear hy400
   obtain ⟨ji20, hji20⟩ : ∃ j_ : Int, (wrap64 (x30_1 + 1)) = j_ := ⟨_, rfl⟩
   replace H : (if 0 ≤ (ji20) then (if (ji20) ≤ (l2.length : Int) then ((some (l2.drop ((ji20) : Int).toNat : List (S37))).bind fun y403 => (if y400.length + y403.length < 8796093022208 then ((impl_listPlan.f k1 l0 a1 (y400 ++ y403) l3).bind fun t410 => ((impl_planLength.f k1 l0 t410).bind fun t413 => (if t413 > t390 then (some ((rd_T37 l2 x30_1).f0, (rd_T37 l2 x30_1).f1, true)) else (impl_LongerWithout.l0 k1 l0 a1 l2 l3 t390 l2 (l2.length : Int) ji20)))) else (none))) else (none)) else (none)) = some (r1, r2, r3) := by first | (rw [hji20] at H; exact H) | (simp only [hji20] at H ⊢; exact H)
   have hji20w : (IntKind.i64.wrap (x30_1 + 1)) = ji20 := (i64_w _).trans hji20
   by_cases c21 : 0 ≤ (ji20)
   rotate_left
   ·rw [if_neg c21] at H
    exact absurd H (by simp)
   rw [if_pos c21] at H
   have c21b0 := eq_true c21
   have c21b1 : decide (0 ≤ (ji20)) = true := decide_eq_true c21
   clear c21
   by_cases c22 : (ji20) ≤ (l2.length : Int)
   rotate_left
   ·rw [if_neg c22] at H
    exact absurd H (by simp)
   rw [if_pos c22] at H
   have c22b0 := eq_true c22
   have c22b1 : decide ((ji20) ≤ (l2.length : Int)) = true := decide_eq_true c22
   clear c22
   obtain ⟨y403, hy403⟩ : ∃ y_ : List (S37), y_ = (l2.drop ((ji20) : Int).toNat) := ⟨_, rfl⟩
   replace H : (if y400.length + y403.length < 8796093022208 then ((impl_listPlan.f k1 l0 a1 (y400 ++ y403) l3).bind fun t410 => ((impl_planLength.f k1 l0 t410).bind fun t413 => (if t413 > t390 then (some ((rd_T37 l2 x30_1).f0, (rd_T37 l2 x30_1).f1, true)) else (impl_LongerWithout.l0 k1 l0 a1 l2 l3 t390 l2 (l2.length : Int) ji20)))) else (none)) = some (r1, r2, r3) := by first | (rw [hy403]; with_reducible exact H) | (have H2_ := (Option.bind_some _ _).symm.trans H; rw [hy403]; with_reducible exact H2_) | (have H2_ := (Option.bind_some _ _).symm.trans H; with_reducible exact H2_) | with_reducible exact H | (rw [hy403]; exact H) | exact H
   have Ny403 := Aside0.mk hy403
   clear hy403
   by_cases c23 : y400.length + y403.length < 8796093022208
   rotate_left
   ·rw [if_neg c23] at H
    exact absurd H (by simp)
   rw [if_pos c23] at H
   have LMc23 := Aside0.mk c23
   clear c23
   obtain ⟨y407, hy407⟩ : ∃ y_ : List (S37), y_ = (y400 ++ y403) := ⟨_, rfl⟩
   replace H : ((impl_listPlan.f k1 l0 a1 y407 l3).bind fun t410 => ((impl_planLength.f k1 l0 t410).bind fun t413 => (if t413 > t390 then (some ((rd_T37 l2 x30_1).f0, (rd_T37 l2 x30_1).f1, true)) else (impl_LongerWithout.l0 k1 l0 a1 l2 l3 t390 l2 (l2.length : Int) ji20)))) = some (r1, r2, r3) := by first | (rw [hy407]; with_reducible exact H) | (have H2_ := (Option.bind_some _ _).symm.trans H; rw [hy407]; with_reducible exact H2_) | (have H2_ := (Option.bind_some _ _).symm.trans H; with_reducible exact H2_) | with_reducible exact H | (rw [hy407]; exact H) | exact H
   have Ny407 := Aside0.mk hy407
   clear hy407
   replace H := Option.bind_eq_some_iff.mp H
   obtain ⟨t410, A240, H⟩ := H
   replace H : ((impl_planLength.f k1 l0 t410).bind fun t413 => (if t413 > t390 then (some ((rd_T37 l2 x30_1).f0, (rd_T37 l2 x30_1).f1, true)) else (impl_LongerWithout.l0 k1 l0 a1 l2 l3 t390 l2 (l2.length : Int) ji20))) = some (r1, r2, r3) := H
   have A24 := Aside0.mk A240
   clear A240
   replace H := Option.bind_eq_some_iff.mp H
   obtain ⟨t413, A250, H⟩ := H
   replace H : (if t413 > t390 then (some ((rd_T37 l2 x30_1).f0, (rd_T37 l2 x30_1).f1, true)) else (impl_LongerWithout.l0 k1 l0 a1 l2 l3 t390 l2 (l2.length : Int) ji20)) = some (r1, r2, r3) := H
   have A25 := Aside0.mk A250
   clear A250
   by_cases c26 : t413 > t390
   rotate_left
   ·rw [if_neg c26] at H
    have c26b0 : decide (t390 < t413) = false := decide_eq_false c26
    clear c26
    have H' := Aside0.mk H
    clear H
    have p391 : 0 ≤ (x30_1 : Int) := of_decide_eq_true (by first | (with_reducible assumption) | assumption)
    have q391 : x30_1 < (l2.length : Int) := of_decide_eq_true (by first | (with_reducible assumption) | assumption)
    obtain ⟨ad391, e391, hx391_0, hx391_1⟩ := at_T37 HR2.out x30_1 p391 q391
    cases e391
    replace hx391_0 := (HB.out.cell (World.block_lt_of_cell? w _ hx391_0)).trans hx391_0
    replace hx391_1 := (HB.out.cell (World.block_lt_of_cell? w _ hx391_1)).trans hx391_1
    replace p391 := eq_true p391
    replace q391 := eq_true q391
    try go_wp2_with (first | ((with_reducible refine gate_dst (N := 12) rfl ?_); refine box_event ?hg (N := 12) ?hd (cs := #[.int .i64 0, .int .i64 0]) (t := 37) ?hr ?_; (case hd => rfl); (case hg => rfl); (case hr => first | (go_simp; done) | (go_simp; rfl)); intro gb392 hg w44 hbox hb; have n0_ := Aside0.mk (blk_below (bs BK385.out) hb); have n1_ := Aside0.mk (below_step (by repeat (first | (with_reducible first | exact bw HB.out | refine bset ?_ | apply bA | apply bN | apply bD) | exact HB.out)) hb); have n2_ := Aside0.mk (hbox); have n3_ := Aside0.mk ((by rw [hg]; exact (below_size (by repeat (first | (with_reducible first | exact bw HB.out | refine bset ?_ | apply bA | apply bN | apply bD) | exact HB.out))) : w.heap.size ≤ gb392)); have n4_ := Aside0.mk ((by rw [hg]; exact (below_size (by repeat (first | (with_reducible first | exact bw HB.out | refine bset ?_ | apply bA | apply bN | apply bD) | exact HB.out))) : w.heap.size ≤ gb392)); have n5_ := ne_ hg BK385.out; have n6_ := en_ hg BK385.out; replace BK385 := n0_; replace HB := n1_; have BK392 := n2_; have GW392 := n3_; have GE392 := n4_; have NB385_392 := n5_; have NB392_385 := n6_; clear n0_ n1_ n2_ n3_ n4_ n5_ n6_; clear hb hbox hg; have hnb45 := NB392_385.out; have hnc45 := NB385_392.out; obtain ⟨hcz46_0, hcz46_1, hfz46_0, hfz46_1⟩ := bz2 BK392.out))
    have n0_ : Aside0 (((w44.setCell ⟨gb392, 0, none⟩ (.int .i64 ((rd_T37 l2 x30_1).f0))).setCell ⟨gb392, 1, none⟩ (.int .i64 ((rd_T37 l2 x30_1).f1))).heap[gb385]? = some (.cells #[.int .i64 x386000_1, .int .i64 x386001_1] 37 (0, 0))) := ⟨by (with_reducible repeat (first | refine blk_drewN ?_ _ | refine blk_drew ?_ | refine blk_alloc ?_ _)); refine blk_far ?_ NB385_392.out _; (with_reducible repeat (first | refine blk_drewN ?_ _ | refine blk_drew ?_ | refine blk_alloc ?_ _)); refine blk_far ?_ NB385_392.out _; exact bs BK385.out⟩
    have n1_ : Aside0 (((w44.setCell ⟨gb392, 0, none⟩ (.int .i64 ((rd_T37 l2 x30_1).f0))).setCell ⟨gb392, 1, none⟩ (.int .i64 ((rd_T37 l2 x30_1).f1))).heap[gb392]? = some (.cells #[.int .i64 ((rd_T37 l2 x30_1).f0), .int .i64 ((rd_T37 l2 x30_1).f1)] 37 (0, 0))) := ⟨by (with_reducible repeat (first | refine blk_drewN ?_ _ | refine blk_drew ?_ | refine blk_alloc ?_ _)); refine blk_put (cs := #[.int .i64 ((rd_T37 l2 x30_1).f0), .int .i64 0]) ?_ 1 _ rfl; (with_reducible repeat (first | refine blk_drewN ?_ _ | refine blk_drew ?_ | refine blk_alloc ?_ _)); refine blk_put (cs := #[.int .i64 0, .int .i64 0]) ?_ 0 _ rfl; exact bs BK392.out⟩
    have n2_ : Aside0 (Below w.heap.size w ((w44.setCell ⟨gb392, 0, none⟩ (.int .i64 ((rd_T37 l2 x30_1).f0))).setCell ⟨gb392, 1, none⟩ (.int .i64 ((rd_T37 l2 x30_1).f1)))) := ⟨by repeat (first | (with_reducible first | exact bw HB.out | refine bset ?_ | apply bA | apply bN | apply bD) | exact HB.out)⟩
    (try clear BK385)
    (try clear BK392)
    (try clear HB)
    (try simp only [setCell_drewN])
    generalize ((w44.setCell ⟨gb392, 0, none⟩ (.int .i64 ((rd_T37 l2 x30_1).f0))).setCell ⟨gb392, 1, none⟩ (.int .i64 ((rd_T37 l2 x30_1).f1))) = w47 at n0_ n1_ n2_ ⊢
    have BK385 := n0_
    have BK392 := n1_
    have HB := n2_
    clear n0_ n1_ n2_
    have n0_ := Aside0.mk (blk_drew BK385.out)
    have n1_ := Aside0.mk (blk_drew BK392.out)
    have n2_ := Aside0.mk (below_drew1 HB.out)
    replace BK385 := n0_
    replace BK392 := n1_
    replace HB := n2_
    clear n0_ n1_ n2_
    have q49 : (x30_1 : Int) ≤ ((l2.length : Int) : Int) := of_decide_eq_true (by first | (with_reducible assumption) | assumption)
    obtain ⟨i049, hi049, _, hsz49, _⟩ := info_parts info37
    have hroom49 : l2.length ≤ c2 := HC2.out
    have hC49 : Kd.C k37 _ (some ad391) l2.length l2 := HR2.out
    have hcut49 := cut_to (P := Try.prog) 23 37 .i64 Try.underlying23 hi049 (some ad391) l2.length c2 x30_1 (of_decide_eq_true (by first | (with_reducible assumption) | assumption)) q49 hroom49
    have hr49 := Kd.C_take (m := (x30_1 : Int).toNat) hC49 (by omega)
    have hy49 : y396.length = (x30_1 : Int).toNat := (by rw [Ny396.out, List.length_take]; omega)
    rw [← Ny396.out] at hr49
    rw [← hy49] at hcut49
    have HR399 := Aside0.mk hr49
    have HC399 := Aside0.mk (show y396.length ≤ c2 from by omega)
    clear hr49 hC49 hroom49 hi049 hsz49
    have KY49 := Aside0.mk hy49
    clear hy49
    replace q49 := eq_true q49
    have q50 : ((ji20) : Int) ≤ ((l2.length : Int) : Int) := of_decide_eq_true (by first | (with_reducible assumption) | assumption)
    obtain ⟨i050, hi050, _, hsz50, _⟩ := info_parts info37
    have hroom50 : l2.length ≤ c2 := HC2.out
    have hC50 : Kd.C k37 _ (some ad391) l2.length l2 := HR2.out
    have q050 : (0 : Int) ≤ ((ji20) : Int) := of_decide_eq_true (by first | (with_reducible assumption) | assumption)
    have hcut50 := cut_from (P := Try.prog) 23 37 .i64 Try.underlying23 hi050 2 hsz50 (some ad391) l2.length c2 (ji20) q050 q50
    have hr50 := Kd.C_drop (m := ((ji20) : Int).toNat) (c := c2) hC50 (by omega) hroom50
    obtain ⟨A50, hA50⟩ : ∃ A1, A1 = (if c2 = ((ji20) : Int).toNat then (some ad391) else ((some ad391) : Option Addr).map (·.add (((ji20) : Int).toNat * 2))) := ⟨_, rfl⟩
    obtain ⟨c50, hc50⟩ : ∃ c1, c1 = c2 - ((ji20) : Int).toNat := ⟨_, rfl⟩
    have hy50 : y403.length = l2.length - ((ji20) : Int).toNat := (by rw [Ny403.out, List.length_drop] <;> omega)
    rw [show (l2).drop ((ji20) : Int).toNat = y403 from Ny403.out.symm] at hr50
    replace hr50 : Kd.C k37 _ A50 y403.length y403 := (by rw [hA50]; exact hr50)
    rw [← hy50, ← hA50, ← hc50] at hcut50
    have HR406 := Aside0.mk hr50
    have HC406 := Aside0.mk (show y403.length ≤ c50 from by rw [hy50, hc50]; exact Nat.sub_le_sub_right hroom50 _)
    clear hr50 hC50 hroom50 hi050 hsz50 hc50
    have KY50 := Aside0.mk hy50
    have KA50 := Aside0.mk hA50
    clear hy50 hA50
    replace q50 := eq_true q50
    refine start_ (n := 11) (S := fun w' => True) (ds := []) q16_0 (by kernel_rfl) rfl rfl trivial (fun hHeld => ?_); refine with_tabW impl_LongerWithout.tab7 impl_LongerWithout.bits7 (fun HT_ HW_ => ?_)
    generalize w47.drew = w48 at BK385 BK392 HB HR399 HR406 hHeld ⊢
    refine pw_ HT_ 1 (some 36) ?_
    refine pw_ HT_ 2 (some 37) ?_
    refine pw_ HT_ 3 (some 38) ?_
    refine pw_ HT_ 5 (some 40) ?_
    refine pw_ HT_ 6 (some 41) ?_
    refine pw_ HT_ 7 (some 42) ?_
    refine pw_ HT_ 8 (some 43) ?_
    refine one_ (i := 0) (N := some 35) q16_8 rfl rfl (one_of HT_.out (by kernel_rfl)) (by decide) (fun K hK => ?_)
    refine Kd.R_lit_step k37 _ 37 ?hg (N := 35) ?hd (xs := ([] : List (S37))) (inner := []) (ok := fun _ => True) (okp := fun _ => True) ?hr ?hp (fun _ hk => hk) trivial (Below.refl _ _) (Nat.le_refl _) (by simp) ?_; (case hd => rfl); (case hg => rfl); (case hr => first | (go_simp; done) | (go_simp; rfl)); (case hp => exact (Reps.none _ _))
    intro v394 w51 ho52 hb hg_ hnew_
    clear hg_ hnew_
    (first | rw [← Ny393.out] at ho52 | (simp only [Int.reduceToNat] at ho52; rw [← Ny393.out] at ho52))
    have n0_ := Aside0.mk (Kd.R_lower (Kd.R_newB (Kd.R_newB ho52 (bs BK385.out)) (bs BK392.out)) (below_size (by repeat (first | (with_reducible first | exact bw HB.out | refine bset ?_ | apply bA | apply bN | apply bD) | exact HB.out))))
    have n1_ := Aside0.mk (blk_below (bs BK385.out) hb)
    have n2_ := Aside0.mk (blk_below (bs BK392.out) hb)
    have n3_ := Aside0.mk (below_step (by repeat (first | (with_reducible first | exact bw HB.out | refine bset ?_ | apply bA | apply bN | apply bD) | exact HB.out)) hb)
    have HO395 := n0_
    replace BK385 := n1_
    replace BK392 := n2_
    replace HB := n3_
    clear n0_ n1_ n2_ n3_
    clear hb ho52
    refine hK.out _ _ trivial (fun hHeld => ?_)
    clear hK K
    refine norm_ (a' := ?_) ?_ ?_
    rotate_left
    ·show Act.put _ (some 35) _ = _
     simp only [aq_]
     rfl
    refine one_ (i := 4) (N := some 39) q16_9 rfl rfl (one_of HT_.out (by kernel_rfl)) (by decide) (fun K hK => ?_)
    refine Kd.R_append_rows_step k37 (w0 := w) w.heap.size (by rfl) (.tmp 35) (.tmp 38) 23 37 (.agg #[(.int .i64 0), (.int .i64 0)]) 16 rfl Try.underlying23 info37 rfl (by decide) (by omega) v394 y393 y396 _ _ _ (fun k_ => k_ ≠ gb385 ∧ k_ ≠ gb392) (fun _ => False) rfl rfl ?aO ?aR (fun _ _ h => h) (fun _ h => h.elim) ?aF ?aB ?aS ?aL ?_
    (case aR => first | exact bC HR399.out HB.out | exact Kd.C_below HR399.out HB.out)
    (case aB => exact (by repeat (first | (with_reducible first | exact bw HB.out | refine bset ?_ | apply bA | apply bN | apply bD) | exact HB.out)))
    (case aF => exact (fun k_ hk => ⟨Kd.freshB (bs BK385.out) k_ hk, Kd.freshB (bs BK392.out) k_ hk⟩))
    (case aO => exact (by (with_reducible repeat (first | apply Kd.R_alloc | apply Kd.R_drewN | apply Kd.R_drew)); exact Kd.R_mono HO395.out (fun _ hk => ⟨hk.1.2, hk.2⟩)))
    (case aS => exact (below_size (by repeat (first | (with_reducible first | exact bw HB.out | refine bset ?_ | apply bA | apply bN | apply bD) | exact HB.out))))
    (case aL => have := LMc19.out; omega)
    intro v401 w53 ho hb hg hat
    rw [← Ny400.out] at ho
    have n0_ := Aside0.mk (blk_grown (bs BK385.out) hg (Kd.R_away HO395.out (fun _ hk => hk.1.2)))
    have n1_ := Aside0.mk (blk_grown (bs BK392.out) hg (Kd.R_away HO395.out (fun _ hk => hk.2)))
    have n2_ := Aside0.mk (hb)
    have n3_ := Aside0.mk (ho)
    clear HO395
    replace BK385 := n0_
    replace BK392 := n1_
    replace HB := n2_
    have HO402 := n3_
    clear n0_ n1_ n2_ n3_
    clear ho hb hg hat
    refine hK.out _ _ trivial (fun hHeld => ?_)
    clear hK K
    refine norm_ (a' := ?_) ?_ ?_
    rotate_left
    ·show Act.put _ (some 39) _ = _
     simp only [aq_]
     rfl
    refine one_ (i := 9) (N := some 44) q16_10 rfl rfl (one_of HT_.out (by kernel_rfl)) (by decide) (fun K hK => ?_)
    refine Kd.R_append_rows_step k37 (w0 := w) w.heap.size (by rfl) (.tmp 39) (.tmp 43) 23 37 (.agg #[(.int .i64 0), (.int .i64 0)]) 16 rfl Try.underlying23 info37 rfl (by decide) (by omega) v401 y400 y403 _ _ _ (fun k_ => k_ ≠ gb385 ∧ k_ ≠ gb392) (fun _ => False) rfl rfl ?aO ?aR (fun _ _ h => h) (fun _ h => h.elim) ?aF ?aB ?aS ?aL ?_
    (case aR => first | exact bC HR406.out HB.out | exact Kd.C_below HR406.out HB.out)
    (case aB => exact (by repeat (first | (with_reducible first | exact bw HB.out | refine bset ?_ | apply bA | apply bN | apply bD) | exact HB.out)))
    (case aF => exact (fun k_ hk => ⟨Kd.freshB (bs BK385.out) k_ hk, Kd.freshB (bs BK392.out) k_ hk⟩))
    (case aO => exact (bR HO402.out))
    (case aS => exact (below_size (by repeat (first | (with_reducible first | exact bw HB.out | refine bset ?_ | apply bA | apply bN | apply bD) | exact HB.out))))
    (case aL => have := LMc23.out; omega)
    intro v408 w54 ho hb hg hat
    rw [← Ny407.out] at ho
    have n0_ := Aside0.mk (blk_grown (bs BK385.out) hg (Kd.R_away HO402.out (fun _ hk => hk.1)))
    have n1_ := Aside0.mk (blk_grown (bs BK392.out) hg (Kd.R_away HO402.out (fun _ hk => hk.2)))
    have n2_ := Aside0.mk (hb)
    have n3_ := Aside0.mk (ho)
    clear HO402
    replace BK385 := n0_
    replace BK392 := n1_
    replace HB := n2_
    have HO409 := n3_
    clear n0_ n1_ n2_ n3_
    clear ho hb hg hat
    refine hK.out _ _ trivial (fun hHeld => ?_)
    clear hK K
    refine norm_ (a' := ?_) ?_ ?_
    rotate_left
    ·show Act.put _ (some 44) _ = _
     simp only [aq_]
     rfl
    refine pw_ HT_ 10 (some 13) ?_
    refine done_ (done_of HT_.out (by kernel_rfl)) ?_
    obtain ⟨Ao55, co55, eo55⟩ := Kd.R_slice HO409.out
    subst eo55
    try go_wp2_with (first | ((with_reducible refine gate_callee (f := 25) rfl ?_); refine goesL_ (some 50) rfl rfl Try.func25 (by kernel_rfl) rfl #[.slice A0 l0.length c0, .int .i64 a1, .slice Ao55 y407.length co55, .slice A3 l3.length c3] rfl (by (try simp only [mA_]); first | done | rfl | (simp only [List.length_drop, List.length_take]; rfl)) ?_; (with_reducible refine (impl_listPlan.calls k1 _ _ l0 a1 _ _ y407 _ _ l3 t410 _ ?side1 ?side2 ?side3 ?side4 ?side5 ?side6 A24.out).mono ?_); (case side1 => first | exact bC HR0.out HB.out | exact Kd.C_below HR0.out HB.out); (case side2 => exact HC0.out); (case side3 => repeat (first | exact (Kd.R_reads' HO409.out).2.2 | (with_reducible refine Kd.C_alloc ?_ _) | (with_reducible refine Kd.C_drewN ?_ _) | (with_reducible refine Kd.C_drew ?_))); (case side4 => exact (Kd.R_reads' HO409.out).2.1); (case side5 => first | exact bC HR3.out HB.out | exact Kd.C_below HR3.out HB.out); (case side6 => exact HC3.out); rintro e w56 ⟨v411, rfl, ho0, hb⟩; refine ⟨_, rfl, ?_⟩; have n0_ := Aside0.mk (Kd.R_below (bR HO409.out) hb); have n1_ := Aside0.mk (Kd.R_lower ho0 (below_size (by repeat (first | (with_reducible first | exact bw HB.out | refine bset ?_ | apply bA | apply bN | apply bD) | exact HB.out)))); have n2_ := Aside0.mk (blk_below (bs BK385.out) hb); have n3_ := Aside0.mk (blk_below (bs BK392.out) hb); have n4_ := Aside0.mk (below_step (by repeat (first | (with_reducible first | exact bw HB.out | refine bset ?_ | apply bA | apply bN | apply bD) | exact HB.out)) hb); replace HO409 := n0_; have HO412 := n1_; replace BK385 := n2_; replace BK392 := n3_; replace HB := n4_; clear n0_ n1_ n2_ n3_ n4_; (try clear hb); (try clear hb2); (try clear hk); (try clear hi); (try clear ho0); obtain ⟨Ao57, co57, eo57⟩ := Kd.R_slice HO412.out; subst eo57) | ((with_reducible refine gate_callee (f := 24) rfl ?_); refine goesL_ (some 51) rfl rfl Try.func24 (by kernel_rfl) rfl #[.slice A0 l0.length c0, .slice Ao57 t410.length co57] rfl (by (try simp only [mA_]); first | done | rfl | (simp only [List.length_drop, List.length_take]; rfl)) ?_; (with_reducible refine (impl_planLength.calls k1 _ _ l0 _ _ t410 t413 _ ?side1 ?side2 ?side3 ?side4 A25.out).mono ?_); (case side1 => first | exact bC HR0.out HB.out | exact Kd.C_below HR0.out HB.out); (case side2 => exact HC0.out); (case side3 => repeat (first | exact (Kd.R_reads' HO412.out).2.2 | (with_reducible refine Kd.C_alloc ?_ _) | (with_reducible refine Kd.C_drewN ?_ _) | (with_reducible refine Kd.C_drew ?_))); (case side4 => exact (Kd.R_reads' HO412.out).2.1); rintro e w58 ⟨rfl, hb⟩; refine ⟨_, rfl, ?_⟩; have n0_ := Aside0.mk (Kd.R_below (bR HO409.out) hb); have n1_ := Aside0.mk (Kd.R_below (bR HO412.out) hb); have n2_ := Aside0.mk (blk_below (bs BK385.out) hb); have n3_ := Aside0.mk (blk_below (bs BK392.out) hb); have n4_ := Aside0.mk (below_step (by repeat (first | (with_reducible first | exact bw HB.out | refine bset ?_ | apply bA | apply bN | apply bD) | exact HB.out)) hb); replace HO409 := n0_; replace HO412 := n1_; replace BK385 := n2_; replace BK392 := n3_; replace HB := n4_; clear n0_ n1_ n2_ n3_ n4_; (try clear hb); (try clear hb2); (try clear hk); (try clear hi)))
    go_roundg k1
    case measure => have := HK1.out; omega
    case rel => exact ⟨(ji20), (x386000_1), (x386001_1), (by first | rfl | (simp; done) | (simp only [← hji20] <;> (first | rfl | simp)) | (simp [*]; done)), H', ⟨by have := HK1.out; omega⟩, ⟨bs BK385.out⟩, ⟨by repeat (first | (with_reducible first | exact bw HB.out | refine bset ?_ | apply bA | apply bN | apply bD) | exact HB.out)⟩⟩
   rw [if_pos c26] at H
   have c26b0 : decide (t390 < t413) = true := decide_eq_true c26
   clear c26
   simp only [Option.some.injEq, Prod.mk.injEq] at H
   obtain ⟨rfl, rfl, rfl⟩ := H
   have p391 : 0 ≤ (x30_1 : Int) := of_decide_eq_true (by first | (with_reducible assumption) | assumption)
   have q391 : x30_1 < (l2.length : Int) := of_decide_eq_true (by first | (with_reducible assumption) | assumption)
   obtain ⟨ad391, e391, hx391_0, hx391_1⟩ := at_T37 HR2.out x30_1 p391 q391
   cases e391
   replace hx391_0 := (HB.out.cell (World.block_lt_of_cell? w _ hx391_0)).trans hx391_0
   replace hx391_1 := (HB.out.cell (World.block_lt_of_cell? w _ hx391_1)).trans hx391_1
   replace p391 := eq_true p391
   replace q391 := eq_true q391
   try go_wp2_with (first | ((with_reducible refine gate_dst (N := 12) rfl ?_); refine box_event ?hg (N := 12) ?hd (cs := #[.int .i64 0, .int .i64 0]) (t := 37) ?hr ?_; (case hd => rfl); (case hg => rfl); (case hr => first | (go_simp; done) | (go_simp; rfl)); intro gb392 hg w27 hbox hb; have n0_ := Aside0.mk (blk_below (bs BK385.out) hb); have n1_ := Aside0.mk (below_step (by repeat (first | (with_reducible first | exact bw HB.out | refine bset ?_ | apply bA | apply bN | apply bD) | exact HB.out)) hb); have n2_ := Aside0.mk (hbox); have n3_ := Aside0.mk ((by rw [hg]; exact (below_size (by repeat (first | (with_reducible first | exact bw HB.out | refine bset ?_ | apply bA | apply bN | apply bD) | exact HB.out))) : w.heap.size ≤ gb392)); have n4_ := Aside0.mk ((by rw [hg]; exact (below_size (by repeat (first | (with_reducible first | exact bw HB.out | refine bset ?_ | apply bA | apply bN | apply bD) | exact HB.out))) : w.heap.size ≤ gb392)); have n5_ := ne_ hg BK385.out; have n6_ := en_ hg BK385.out; replace BK385 := n0_; replace HB := n1_; have BK392 := n2_; have GW392 := n3_; have GE392 := n4_; have NB385_392 := n5_; have NB392_385 := n6_; clear n0_ n1_ n2_ n3_ n4_ n5_ n6_; clear hb hbox hg; have hnb28 := NB392_385.out; have hnc28 := NB385_392.out; obtain ⟨hcz29_0, hcz29_1, hfz29_0, hfz29_1⟩ := bz2 BK392.out))
   have n0_ : Aside0 (((w27.setCell ⟨gb392, 0, none⟩ (.int .i64 ((rd_T37 l2 x30_1).f0))).setCell ⟨gb392, 1, none⟩ (.int .i64 ((rd_T37 l2 x30_1).f1))).heap[gb385]? = some (.cells #[.int .i64 x386000_1, .int .i64 x386001_1] 37 (0, 0))) := ⟨by (with_reducible repeat (first | refine blk_drewN ?_ _ | refine blk_drew ?_ | refine blk_alloc ?_ _)); refine blk_far ?_ NB385_392.out _; (with_reducible repeat (first | refine blk_drewN ?_ _ | refine blk_drew ?_ | refine blk_alloc ?_ _)); refine blk_far ?_ NB385_392.out _; exact bs BK385.out⟩
   have n1_ : Aside0 (((w27.setCell ⟨gb392, 0, none⟩ (.int .i64 ((rd_T37 l2 x30_1).f0))).setCell ⟨gb392, 1, none⟩ (.int .i64 ((rd_T37 l2 x30_1).f1))).heap[gb392]? = some (.cells #[.int .i64 ((rd_T37 l2 x30_1).f0), .int .i64 ((rd_T37 l2 x30_1).f1)] 37 (0, 0))) := ⟨by (with_reducible repeat (first | refine blk_drewN ?_ _ | refine blk_drew ?_ | refine blk_alloc ?_ _)); refine blk_put (cs := #[.int .i64 ((rd_T37 l2 x30_1).f0), .int .i64 0]) ?_ 1 _ rfl; (with_reducible repeat (first | refine blk_drewN ?_ _ | refine blk_drew ?_ | refine blk_alloc ?_ _)); refine blk_put (cs := #[.int .i64 0, .int .i64 0]) ?_ 0 _ rfl; exact bs BK392.out⟩
   have n2_ : Aside0 (Below w.heap.size w ((w27.setCell ⟨gb392, 0, none⟩ (.int .i64 ((rd_T37 l2 x30_1).f0))).setCell ⟨gb392, 1, none⟩ (.int .i64 ((rd_T37 l2 x30_1).f1)))) := ⟨by repeat (first | (with_reducible first | exact bw HB.out | refine bset ?_ | apply bA | apply bN | apply bD) | exact HB.out)⟩
   (try clear BK385)
   (try clear BK392)
   (try clear HB)
   (try simp only [setCell_drewN])
   generalize ((w27.setCell ⟨gb392, 0, none⟩ (.int .i64 ((rd_T37 l2 x30_1).f0))).setCell ⟨gb392, 1, none⟩ (.int .i64 ((rd_T37 l2 x30_1).f1))) = w30 at n0_ n1_ n2_ ⊢
   have BK385 := n0_
   have BK392 := n1_
   have HB := n2_
   clear n0_ n1_ n2_
   have n0_ := Aside0.mk (blk_drew BK385.out)
   have n1_ := Aside0.mk (blk_drew BK392.out)
   have n2_ := Aside0.mk (below_drew1 HB.out)
   replace BK385 := n0_
   replace BK392 := n1_
   replace HB := n2_
   clear n0_ n1_ n2_
   have q32 : (x30_1 : Int) ≤ ((l2.length : Int) : Int) := of_decide_eq_true (by first | (with_reducible assumption) | assumption)
   obtain ⟨i032, hi032, _, hsz32, _⟩ := info_parts info37
   have hroom32 : l2.length ≤ c2 := HC2.out
   have hC32 : Kd.C k37 _ (some ad391) l2.length l2 := HR2.out
   have hcut32 := cut_to (P := Try.prog) 23 37 .i64 Try.underlying23 hi032 (some ad391) l2.length c2 x30_1 (of_decide_eq_true (by first | (with_reducible assumption) | assumption)) q32 hroom32
   have hr32 := Kd.C_take (m := (x30_1 : Int).toNat) hC32 (by omega)
   have hy32 : y396.length = (x30_1 : Int).toNat := (by rw [Ny396.out, List.length_take]; omega)
   rw [← Ny396.out] at hr32
   rw [← hy32] at hcut32
   have HR399 := Aside0.mk hr32
   have HC399 := Aside0.mk (show y396.length ≤ c2 from by omega)
   clear hr32 hC32 hroom32 hi032 hsz32
   have KY32 := Aside0.mk hy32
   clear hy32
   replace q32 := eq_true q32
   have q33 : ((ji20) : Int) ≤ ((l2.length : Int) : Int) := of_decide_eq_true (by first | (with_reducible assumption) | assumption)
   obtain ⟨i033, hi033, _, hsz33, _⟩ := info_parts info37
   have hroom33 : l2.length ≤ c2 := HC2.out
   have hC33 : Kd.C k37 _ (some ad391) l2.length l2 := HR2.out
   have q033 : (0 : Int) ≤ ((ji20) : Int) := of_decide_eq_true (by first | (with_reducible assumption) | assumption)
   have hcut33 := cut_from (P := Try.prog) 23 37 .i64 Try.underlying23 hi033 2 hsz33 (some ad391) l2.length c2 (ji20) q033 q33
   have hr33 := Kd.C_drop (m := ((ji20) : Int).toNat) (c := c2) hC33 (by omega) hroom33
   obtain ⟨A33, hA33⟩ : ∃ A1, A1 = (if c2 = ((ji20) : Int).toNat then (some ad391) else ((some ad391) : Option Addr).map (·.add (((ji20) : Int).toNat * 2))) := ⟨_, rfl⟩
   obtain ⟨c33, hc33⟩ : ∃ c1, c1 = c2 - ((ji20) : Int).toNat := ⟨_, rfl⟩
   have hy33 : y403.length = l2.length - ((ji20) : Int).toNat := (by rw [Ny403.out, List.length_drop] <;> omega)
   rw [show (l2).drop ((ji20) : Int).toNat = y403 from Ny403.out.symm] at hr33
   replace hr33 : Kd.C k37 _ A33 y403.length y403 := (by rw [hA33]; exact hr33)
   rw [← hy33, ← hA33, ← hc33] at hcut33
   have HR406 := Aside0.mk hr33
   have HC406 := Aside0.mk (show y403.length ≤ c33 from by rw [hy33, hc33]; exact Nat.sub_le_sub_right hroom33 _)
   clear hr33 hC33 hroom33 hi033 hsz33 hc33
   have KY33 := Aside0.mk hy33
   have KA33 := Aside0.mk hA33
   clear hy33 hA33
   replace q33 := eq_true q33
   refine start_ (n := 11) (S := fun w' => True) (ds := []) q16_0 (by kernel_rfl) rfl rfl trivial (fun hHeld => ?_); refine with_tabW impl_LongerWithout.tab7 impl_LongerWithout.bits7 (fun HT_ HW_ => ?_)
   generalize w30.drew = w31 at BK385 BK392 HB HR399 HR406 hHeld ⊢
   refine pw_ HT_ 1 (some 36) ?_
   refine pw_ HT_ 2 (some 37) ?_
   refine pw_ HT_ 3 (some 38) ?_
   refine pw_ HT_ 5 (some 40) ?_
   refine pw_ HT_ 6 (some 41) ?_
   refine pw_ HT_ 7 (some 42) ?_
   refine pw_ HT_ 8 (some 43) ?_
   refine one_ (i := 0) (N := some 35) q16_8 rfl rfl (one_of HT_.out (by kernel_rfl)) (by decide) (fun K hK => ?_)
   refine Kd.R_lit_step k37 _ 37 ?hg (N := 35) ?hd (xs := ([] : List (S37))) (inner := []) (ok := fun _ => True) (okp := fun _ => True) ?hr ?hp (fun _ hk => hk) trivial (Below.refl _ _) (Nat.le_refl _) (by simp) ?_; (case hd => rfl); (case hg => rfl); (case hr => first | (go_simp; done) | (go_simp; rfl)); (case hp => exact (Reps.none _ _))
   intro v394 w34 ho35 hb hg_ hnew_
   clear hg_ hnew_
   (first | rw [← Ny393.out] at ho35 | (simp only [Int.reduceToNat] at ho35; rw [← Ny393.out] at ho35))
   have n0_ := Aside0.mk (Kd.R_lower (Kd.R_newB (Kd.R_newB ho35 (bs BK385.out)) (bs BK392.out)) (below_size (by repeat (first | (with_reducible first | exact bw HB.out | refine bset ?_ | apply bA | apply bN | apply bD) | exact HB.out))))
   have n1_ := Aside0.mk (blk_below (bs BK385.out) hb)
   have n2_ := Aside0.mk (blk_below (bs BK392.out) hb)
   have n3_ := Aside0.mk (below_step (by repeat (first | (with_reducible first | exact bw HB.out | refine bset ?_ | apply bA | apply bN | apply bD) | exact HB.out)) hb)
   have HO395 := n0_
   replace BK385 := n1_
   replace BK392 := n2_
   replace HB := n3_
   clear n0_ n1_ n2_ n3_
   clear hb ho35
   refine hK.out _ _ trivial (fun hHeld => ?_)
   clear hK K
   refine norm_ (a' := ?_) ?_ ?_
   rotate_left
   ·show Act.put _ (some 35) _ = _
    simp only [aq_]
    rfl
   refine one_ (i := 4) (N := some 39) q16_9 rfl rfl (one_of HT_.out (by kernel_rfl)) (by decide) (fun K hK => ?_)
   refine Kd.R_append_rows_step k37 (w0 := w) w.heap.size (by rfl) (.tmp 35) (.tmp 38) 23 37 (.agg #[(.int .i64 0), (.int .i64 0)]) 16 rfl Try.underlying23 info37 rfl (by decide) (by omega) v394 y393 y396 _ _ _ (fun k_ => k_ ≠ gb385 ∧ k_ ≠ gb392) (fun _ => False) rfl rfl ?aO ?aR (fun _ _ h => h) (fun _ h => h.elim) ?aF ?aB ?aS ?aL ?_
   (case aR => first | exact bC HR399.out HB.out | exact Kd.C_below HR399.out HB.out)
   (case aB => exact (by repeat (first | (with_reducible first | exact bw HB.out | refine bset ?_ | apply bA | apply bN | apply bD) | exact HB.out)))
   (case aF => exact (fun k_ hk => ⟨Kd.freshB (bs BK385.out) k_ hk, Kd.freshB (bs BK392.out) k_ hk⟩))
   (case aO => exact (by (with_reducible repeat (first | apply Kd.R_alloc | apply Kd.R_drewN | apply Kd.R_drew)); exact Kd.R_mono HO395.out (fun _ hk => ⟨hk.1.2, hk.2⟩)))
   (case aS => exact (below_size (by repeat (first | (with_reducible first | exact bw HB.out | refine bset ?_ | apply bA | apply bN | apply bD) | exact HB.out))))
   (case aL => have := LMc19.out; omega)
   intro v401 w36 ho hb hg hat
   rw [← Ny400.out] at ho
   have n0_ := Aside0.mk (blk_grown (bs BK385.out) hg (Kd.R_away HO395.out (fun _ hk => hk.1.2)))
   have n1_ := Aside0.mk (blk_grown (bs BK392.out) hg (Kd.R_away HO395.out (fun _ hk => hk.2)))
   have n2_ := Aside0.mk (hb)
   have n3_ := Aside0.mk (ho)
   clear HO395
   replace BK385 := n0_
   replace BK392 := n1_
   replace HB := n2_
   have HO402 := n3_
   clear n0_ n1_ n2_ n3_
   clear ho hb hg hat
   refine hK.out _ _ trivial (fun hHeld => ?_)
   clear hK K
   refine norm_ (a' := ?_) ?_ ?_
   rotate_left
   ·show Act.put _ (some 39) _ = _
    simp only [aq_]
    rfl
   refine one_ (i := 9) (N := some 44) q16_10 rfl rfl (one_of HT_.out (by kernel_rfl)) (by decide) (fun K hK => ?_)
   refine Kd.R_append_rows_step k37 (w0 := w) w.heap.size (by rfl) (.tmp 39) (.tmp 43) 23 37 (.agg #[(.int .i64 0), (.int .i64 0)]) 16 rfl Try.underlying23 info37 rfl (by decide) (by omega) v401 y400 y403 _ _ _ (fun k_ => k_ ≠ gb385 ∧ k_ ≠ gb392) (fun _ => False) rfl rfl ?aO ?aR (fun _ _ h => h) (fun _ h => h.elim) ?aF ?aB ?aS ?aL ?_
   (case aR => first | exact bC HR406.out HB.out | exact Kd.C_below HR406.out HB.out)
   (case aB => exact (by repeat (first | (with_reducible first | exact bw HB.out | refine bset ?_ | apply bA | apply bN | apply bD) | exact HB.out)))
   (case aF => exact (fun k_ hk => ⟨Kd.freshB (bs BK385.out) k_ hk, Kd.freshB (bs BK392.out) k_ hk⟩))
   (case aO => exact (bR HO402.out))
   (case aS => exact (below_size (by repeat (first | (with_reducible first | exact bw HB.out | refine bset ?_ | apply bA | apply bN | apply bD) | exact HB.out))))
   (case aL => have := LMc23.out; omega)
   intro v408 w37 ho hb hg hat
   rw [← Ny407.out] at ho
   have n0_ := Aside0.mk (blk_grown (bs BK385.out) hg (Kd.R_away HO402.out (fun _ hk => hk.1)))
   have n1_ := Aside0.mk (blk_grown (bs BK392.out) hg (Kd.R_away HO402.out (fun _ hk => hk.2)))
   have n2_ := Aside0.mk (hb)
   have n3_ := Aside0.mk (ho)
   clear HO402
   replace BK385 := n0_
   replace BK392 := n1_
   replace HB := n2_
   have HO409 := n3_
   clear n0_ n1_ n2_ n3_
   clear ho hb hg hat
   refine hK.out _ _ trivial (fun hHeld => ?_)
   clear hK K
   refine norm_ (a' := ?_) ?_ ?_
   rotate_left
   ·show Act.put _ (some 44) _ = _
    simp only [aq_]
    rfl
   refine pw_ HT_ 10 (some 13) ?_
   refine done_ (done_of HT_.out (by kernel_rfl)) ?_
   obtain ⟨Ao38, co38, eo38⟩ := Kd.R_slice HO409.out
   subst eo38
   try go_wp2_with (first | ((with_reducible refine gate_callee (f := 25) rfl ?_); refine goesL_ (some 50) rfl rfl Try.func25 (by kernel_rfl) rfl #[.slice A0 l0.length c0, .int .i64 a1, .slice Ao38 y407.length co38, .slice A3 l3.length c3] rfl (by (try simp only [mA_]); first | done | rfl | (simp only [List.length_drop, List.length_take]; rfl)) ?_; (with_reducible refine (impl_listPlan.calls k1 _ _ l0 a1 _ _ y407 _ _ l3 t410 _ ?side1 ?side2 ?side3 ?side4 ?side5 ?side6 A24.out).mono ?_); (case side1 => first | exact bC HR0.out HB.out | exact Kd.C_below HR0.out HB.out); (case side2 => exact HC0.out); (case side3 => repeat (first | exact (Kd.R_reads' HO409.out).2.2 | (with_reducible refine Kd.C_alloc ?_ _) | (with_reducible refine Kd.C_drewN ?_ _) | (with_reducible refine Kd.C_drew ?_))); (case side4 => exact (Kd.R_reads' HO409.out).2.1); (case side5 => first | exact bC HR3.out HB.out | exact Kd.C_below HR3.out HB.out); (case side6 => exact HC3.out); rintro e w39 ⟨v411, rfl, ho0, hb⟩; refine ⟨_, rfl, ?_⟩; have n0_ := Aside0.mk (Kd.R_below (bR HO409.out) hb); have n1_ := Aside0.mk (Kd.R_lower ho0 (below_size (by repeat (first | (with_reducible first | exact bw HB.out | refine bset ?_ | apply bA | apply bN | apply bD) | exact HB.out)))); have n2_ := Aside0.mk (blk_below (bs BK385.out) hb); have n3_ := Aside0.mk (blk_below (bs BK392.out) hb); have n4_ := Aside0.mk (below_step (by repeat (first | (with_reducible first | exact bw HB.out | refine bset ?_ | apply bA | apply bN | apply bD) | exact HB.out)) hb); replace HO409 := n0_; have HO412 := n1_; replace BK385 := n2_; replace BK392 := n3_; replace HB := n4_; clear n0_ n1_ n2_ n3_ n4_; (try clear hb); (try clear hb2); (try clear hk); (try clear hi); (try clear ho0); obtain ⟨Ao40, co40, eo40⟩ := Kd.R_slice HO412.out; subst eo40) | ((with_reducible refine gate_callee (f := 24) rfl ?_); refine goesL_ (some 51) rfl rfl Try.func24 (by kernel_rfl) rfl #[.slice A0 l0.length c0, .slice Ao40 t410.length co40] rfl (by (try simp only [mA_]); first | done | rfl | (simp only [List.length_drop, List.length_take]; rfl)) ?_; (with_reducible refine (impl_planLength.calls k1 _ _ l0 _ _ t410 t413 _ ?side1 ?side2 ?side3 ?side4 A25.out).mono ?_); (case side1 => first | exact bC HR0.out HB.out | exact Kd.C_below HR0.out HB.out); (case side2 => exact HC0.out); (case side3 => repeat (first | exact (Kd.R_reads' HO412.out).2.2 | (with_reducible refine Kd.C_alloc ?_ _) | (with_reducible refine Kd.C_drewN ?_ _) | (with_reducible refine Kd.C_drew ?_))); (case side4 => exact (Kd.R_reads' HO412.out).2.1); rintro e w41 ⟨rfl, hb⟩; refine ⟨_, rfl, ?_⟩; have n0_ := Aside0.mk (Kd.R_below (bR HO409.out) hb); have n1_ := Aside0.mk (Kd.R_below (bR HO412.out) hb); have n2_ := Aside0.mk (blk_below (bs BK385.out) hb); have n3_ := Aside0.mk (blk_below (bs BK392.out) hb); have n4_ := Aside0.mk (below_step (by repeat (first | (with_reducible first | exact bw HB.out | refine bset ?_ | apply bA | apply bN | apply bD) | exact HB.out)) hb); replace HO409 := n0_; replace HO412 := n1_; replace BK385 := n2_; replace BK392 := n3_; replace HB := n4_; clear n0_ n1_ n2_ n3_ n4_; (try clear hb); (try clear hb2); (try clear hk); (try clear hi); obtain ⟨hcz42_0, hcz42_1, hfz42_0, hfz42_1⟩ := bz2 BK392.out; obtain ⟨hcz43_0, hcz43_1, hfz43_0, hfz43_1⟩ := bz2 BK385.out))
   refine bodyPost_ret (results_ct rfl _ _ gb385 37 #[.int .i64 ((rd_T37 l2 x30_1).f0), .int .i64 ((rd_T37 l2 x30_1).f1)] (0, 0) _ rfl (by (with_reducible repeat (first | refine blk_drewN ?_ _ | refine blk_drew ?_ | refine blk_alloc ?_ _)); refine blk_put (cs := #[.int .i64 ((rd_T37 l2 x30_1).f0), .int .i64 x386001_1]) ?_ 1 _ rfl; (with_reducible repeat (first | refine blk_drewN ?_ _ | refine blk_drew ?_ | refine blk_alloc ?_ _)); refine blk_put (cs := #[.int .i64 x386000_1, .int .i64 x386001_1]) ?_ 0 _ rfl; exact bs BK385.out) Try.underlying37 rfl (by kernel_rfl)) rfl ?_
   exact ⟨by first | rfl | (simp [errW_none, errW_some] <;> rfl) | (simp only [← hji20]; first | rfl | (simp [errW_none, errW_some] <;> rfl)) | (simp [*, errW_none, errW_some] <;> rfl), by repeat (first | (with_reducible first | exact bw HB.out | refine bset ?_ | apply bA | apply bN | apply bD) | exact HB.out)⟩

/-! ### laws_FnExactLongerWithout: function 4 -/
def laws_FnExactLongerWithout.j0 : Nat → List (S48) → List (S37) → List Int → List (S46) → List (S37) → List Int → Bool → Option (Bool)
 | 0, _, _, _, _, _, _, _ => none
 | k + 1, x0, x2, x3, x12, x13, x14, x63 => if x63 = true then (some false) else ((laws_toJobS.f k x0).bind fun t443 => ((laws_eqJobS.f k x12 t443).bind fun t446 => (if t446 = true then ((laws_toIntA2S.f k x2).bind fun t447 => ((laws_eqIntA2S.f k x13 t447).bind fun t450 => (if t450 = true then ((laws_toIntS.f k x3).bind fun t451 => ((laws_eqIntS.f k x14 t451).bind fun t454 => (if t454 = true then (some true) else (some false)))) else (some false)))) else (some false))))
def laws_FnExactLongerWithout.f (k : Nat) (l0 : List (S48)) (a1 : Int) (l2 : List (S37)) (l3 : List Int) : Option (Bool) := if (l3.length : Int) > 1048576 then (some true) else ((laws_szJobS.f l0 1048576).bind fun t414 => (if t414 < 0 then (some true) else ((laws_szIntA2S.f l2 t414).bind fun t415 => (if t415 < 0 then (some true) else ((laws_toJobS.f k l0).bind fun t416 => ((laws_toIntA2S.f k l2).bind fun t419 => ((laws_toIntS.f k l3).bind fun t422 => ((spec_LongerWithout.f k t416 a1 t419 t422).bind fun bt425 => ((laws_toJobS.f k l0).bind fun t429 => ((laws_toIntA2S.f k l2).bind fun t432 => ((laws_toIntS.f k l3).bind fun t435 => ((impl_LongerWithout.f k t429 a1 t432 t435).bind fun bt438 => ((laws_eqIntA2.f bt438.1 bt438.2.1 bt425.1 bt425.2.1).bind fun t442 => (if t442 = true then (laws_FnExactLongerWithout.j0 k l0 l2 l3 t429 t432 t435 (bt438.2.2 != bt425.2.2)) else (laws_FnExactLongerWithout.j0 k l0 l2 l3 t429 t432 t435 true)))))))))))))))
theorem laws_FnExactLongerWithout.mono_l : ∀ k, (∀ y0 y1 y2 y3 y4 y5 y6, LeO (laws_FnExactLongerWithout.j0 k y0 y1 y2 y3 y4 y5 y6) (laws_FnExactLongerWithout.j0 (k + 1) y0 y1 y2 y3 y4 y5 y6))
 | 0 => fun _ _ _ _ _ _ _ r h => by simp [laws_FnExactLongerWithout.j0] at h
 | k + 1 => by
  have ih0 := laws_FnExactLongerWithout.mono_l k
  ·intro y0 y1 y2 y3 y4 y5 y6
   unfold laws_FnExactLongerWithout.j0
   repeat' first
   | (with_reducible exact ih0 _ _ _ _ _ _ _)
   | (with_reducible exact impl_LongerWithout.mono _ _ _ _ _)
   | (with_reducible exact laws_eqIntA2S.mono _ _ _)
   | (with_reducible exact laws_eqIntS.mono _ _ _)
   | (with_reducible exact laws_eqJobS.mono _ _ _)
   | (with_reducible exact laws_toIntA2S.mono _ _)
   | (with_reducible exact laws_toIntS.mono _ _)
   | (with_reducible exact laws_toJobS.mono _ _)
   | (with_reducible exact spec_LongerWithout.mono _ _ _ _ _)
   | (with_reducible exact LeO.refl _)
   | (with_reducible exact LeO.none _)
   | (with_reducible refine LeO.ite ?_ ?_)
   | (with_reducible refine LeO.bind ?_ (fun _ => ?_))
   | exact ih0 _ _ _ _ _ _ _
   | exact impl_LongerWithout.mono _ _ _ _ _
   | exact laws_eqIntA2S.mono _ _ _
   | exact laws_eqIntS.mono _ _ _
   | exact laws_eqJobS.mono _ _ _
   | exact laws_toIntA2S.mono _ _
   | exact laws_toIntS.mono _ _
   | exact laws_toJobS.mono _ _
   | exact spec_LongerWithout.mono _ _ _ _ _
   | exact LeO.none _
   | refine LeO.ite ?_ ?_
   | refine LeO.bind ?_ (fun _ => ?_)
theorem laws_FnExactLongerWithout.mono : ∀ a0 a1 a2 a3 k, LeO (laws_FnExactLongerWithout.f k a0 a1 a2 a3) (laws_FnExactLongerWithout.f (k + 1) a0 a1 a2 a3) := by
 intro a0 a1 a2 a3 k
 have ih0 := laws_FnExactLongerWithout.mono_l k
 unfold laws_FnExactLongerWithout.f
 repeat' first
   | (with_reducible exact ih0 _ _ _ _ _ _ _)
   | (with_reducible exact impl_LongerWithout.mono _ _ _ _ _)
   | (with_reducible exact laws_eqIntA2S.mono _ _ _)
   | (with_reducible exact laws_eqIntS.mono _ _ _)
   | (with_reducible exact laws_eqJobS.mono _ _ _)
   | (with_reducible exact laws_toIntA2S.mono _ _)
   | (with_reducible exact laws_toIntS.mono _ _)
   | (with_reducible exact laws_toJobS.mono _ _)
   | (with_reducible exact spec_LongerWithout.mono _ _ _ _ _)
   | (with_reducible exact LeO.refl _)
   | (with_reducible exact LeO.none _)
   | (with_reducible refine LeO.ite ?_ ?_)
   | (with_reducible refine LeO.bind ?_ (fun _ => ?_))
   | exact ih0 _ _ _ _ _ _ _
   | exact impl_LongerWithout.mono _ _ _ _ _
   | exact laws_eqIntA2S.mono _ _ _
   | exact laws_eqIntS.mono _ _ _
   | exact laws_eqJobS.mono _ _ _
   | exact laws_toIntA2S.mono _ _
   | exact laws_toIntS.mono _ _
   | exact laws_toJobS.mono _ _
   | exact spec_LongerWithout.mono _ _ _ _ _
   | exact LeO.none _
   | refine LeO.ite ?_ ?_
   | refine LeO.bind ?_ (fun _ => ?_)
set_option maxHeartbeats 8000000 in
set_option maxRecDepth 100000 in
theorem laws_FnExactLongerWithout.calls (k : Nat) (A0 : Option Addr) (c0 : Nat) (l0 : List (S48)) (a1 : Int) (A2 : Option Addr) (c2 : Nat) (l2 : List (S37)) (A3 : Option Addr) (c3 : Nat) (l3 : List Int) (r : Bool) (w : World) (hr0 : Kd.C k48 w A0 l0.length l0) (hc0 : l0.length ≤ c0) (hr2 : Kd.C k37 w A2 l2.length l2) (hc2 : l2.length ≤ c2) (hr3 : Kd.C (Kd.int .i64) w A3 l3.length l3) (hc3 : l3.length ≤ c3) (h : laws_FnExactLongerWithout.f k l0 a1 l2 l3 = some r) :
  Calls Try.prog 4 #[.slice A0 l0.length c0, .int .i64 a1, .slice A2 l2.length c2, .slice A3 l3.length c3] w fun e w' => e = .returned (.bool r) ∧ Below w.heap.size w w' := by
 have hu37 := Try.underlying37
 have HR0 := Aside0.mk hr0
 have HC0 := Aside0.mk hc0
 clear hr0 hc0
 have HR2 := Aside0.mk hr2
 have HC2 := Aside0.mk hc2
 clear hr2 hc2
 have HR3 := Aside0.mk hr3
 have HC3 := Aside0.mk hc3
 clear hr3 hc3
 have HB := Aside0.mk (Below.refl w.heap.size w)
 have H : (if (l3.length : Int) > 1048576 then (some true) else ((laws_szJobS.f l0 1048576).bind fun t414 => (if t414 < 0 then (some true) else ((laws_szIntA2S.f l2 t414).bind fun t415 => (if t415 < 0 then (some true) else ((laws_toJobS.f k l0).bind fun t416 => ((laws_toIntA2S.f k l2).bind fun t419 => ((laws_toIntS.f k l3).bind fun t422 => ((spec_LongerWithout.f k t416 a1 t419 t422).bind fun bt425 => ((laws_toJobS.f k l0).bind fun t429 => ((laws_toIntA2S.f k l2).bind fun t432 => ((laws_toIntS.f k l3).bind fun t435 => ((impl_LongerWithout.f k t429 a1 t432 t435).bind fun bt438 => ((laws_eqIntA2.f bt438.1 bt438.2.1 bt425.1 bt425.2.1).bind fun t442 => (if t442 = true then (laws_FnExactLongerWithout.j0 k l0 l2 l3 t429 t432 t435 (bt438.2.2 != bt425.2.2)) else (laws_FnExactLongerWithout.j0 k l0 l2 l3 t429 t432 t435 true)))))))))))))))) = some r := h
 clear h
 by_cases c5 : (l3.length : Int) > 1048576
 ·rw [if_pos c5] at H
  have c5b0 : decide (1048576 < (l3.length : Int)) = true := decide_eq_true c5
  have c5b1 : decide (1048576 < l3.length) = true := decide_eq_true (by omega)
  clear c5
  obtain rfl := Option.some.inj H
  go_enter Try.func4, Try.ntmps4
  go_wp2
  go_ret
  exact ⟨by first | rfl | (simp [errW_none, errW_some] <;> rfl) | (simp [*, errW_none, errW_some] <;> rfl), bw HB.out⟩
 rw [if_neg c5] at H
 have c5b0 : decide (1048576 < (l3.length : Int)) = false := decide_eq_false c5
 have c5b1 : decide (1048576 < l3.length) = false := decide_eq_false (by omega)
 clear c5
 replace H := Option.bind_eq_some_iff.mp H
 obtain ⟨t414, A60, H⟩ := H
 replace H : (if t414 < 0 then (some true) else ((laws_szIntA2S.f l2 t414).bind fun t415 => (if t415 < 0 then (some true) else ((laws_toJobS.f k l0).bind fun t416 => ((laws_toIntA2S.f k l2).bind fun t419 => ((laws_toIntS.f k l3).bind fun t422 => ((spec_LongerWithout.f k t416 a1 t419 t422).bind fun bt425 => ((laws_toJobS.f k l0).bind fun t429 => ((laws_toIntA2S.f k l2).bind fun t432 => ((laws_toIntS.f k l3).bind fun t435 => ((impl_LongerWithout.f k t429 a1 t432 t435).bind fun bt438 => ((laws_eqIntA2.f bt438.1 bt438.2.1 bt425.1 bt425.2.1).bind fun t442 => (if t442 = true then (laws_FnExactLongerWithout.j0 k l0 l2 l3 t429 t432 t435 (bt438.2.2 != bt425.2.2)) else (laws_FnExactLongerWithout.j0 k l0 l2 l3 t429 t432 t435 true)))))))))))))) = some r := H
 have A6 := Aside0.mk A60
 clear A60
 by_cases c7 : t414 < 0
 ·rw [if_pos c7] at H
  have c7b0 : decide (t414 < 0) = true := decide_eq_true c7
  clear c7
  obtain rfl := Option.some.inj H
  go_enter Try.func4, Try.ntmps4
  go_wp2_with (first | ((with_reducible refine gate_callee (f := 5) rfl ?_); refine goesL_ (some 22) rfl rfl Try.func5 (by kernel_rfl) rfl #[.slice A0 l0.length c0, .int .i64 1048576] rfl (by (try simp only [mA_]); first | done | rfl | (simp only [List.length_drop, List.length_take]; rfl)) ?_; (with_reducible refine (laws_szJobS.calls _ _ l0 1048576 t414 _ ?side1 ?side2 A6.out).mono ?_); (case side1 => repeat (first | exact HR0.out | (with_reducible refine Kd.C_alloc ?_ _) | (with_reducible refine Kd.C_drewN ?_ _) | (with_reducible refine Kd.C_drew ?_))); (case side2 => exact HC0.out); rintro e w' ⟨rfl, ⟨nd, rfl⟩⟩; refine ⟨_, rfl, ?_⟩))
  go_ret
  exact ⟨by first | rfl | (simp [errW_none, errW_some] <;> rfl) | (simp [*, errW_none, errW_some] <;> rfl), bw HB.out⟩
 rw [if_neg c7] at H
 have c7b0 : decide (t414 < 0) = false := decide_eq_false c7
 clear c7
 replace H := Option.bind_eq_some_iff.mp H
 obtain ⟨t415, A80, H⟩ := H
 replace H : (if t415 < 0 then (some true) else ((laws_toJobS.f k l0).bind fun t416 => ((laws_toIntA2S.f k l2).bind fun t419 => ((laws_toIntS.f k l3).bind fun t422 => ((spec_LongerWithout.f k t416 a1 t419 t422).bind fun bt425 => ((laws_toJobS.f k l0).bind fun t429 => ((laws_toIntA2S.f k l2).bind fun t432 => ((laws_toIntS.f k l3).bind fun t435 => ((impl_LongerWithout.f k t429 a1 t432 t435).bind fun bt438 => ((laws_eqIntA2.f bt438.1 bt438.2.1 bt425.1 bt425.2.1).bind fun t442 => (if t442 = true then (laws_FnExactLongerWithout.j0 k l0 l2 l3 t429 t432 t435 (bt438.2.2 != bt425.2.2)) else (laws_FnExactLongerWithout.j0 k l0 l2 l3 t429 t432 t435 true)))))))))))) = some r := H
 have A8 := Aside0.mk A80
 clear A80
 by_cases c9 : t415 < 0
 ·rw [if_pos c9] at H
  have c9b0 : decide (t415 < 0) = true := decide_eq_true c9
  clear c9
  obtain rfl := Option.some.inj H
  go_enter Try.func4, Try.ntmps4
  go_wp2_with (first | ((with_reducible refine gate_callee (f := 5) rfl ?_); refine goesL_ (some 22) rfl rfl Try.func5 (by kernel_rfl) rfl #[.slice A0 l0.length c0, .int .i64 1048576] rfl (by (try simp only [mA_]); first | done | rfl | (simp only [List.length_drop, List.length_take]; rfl)) ?_; (with_reducible refine (laws_szJobS.calls _ _ l0 1048576 t414 _ ?side1 ?side2 A6.out).mono ?_); (case side1 => repeat (first | exact HR0.out | (with_reducible refine Kd.C_alloc ?_ _) | (with_reducible refine Kd.C_drewN ?_ _) | (with_reducible refine Kd.C_drew ?_))); (case side2 => exact HC0.out); rintro e w' ⟨rfl, ⟨nd, rfl⟩⟩; refine ⟨_, rfl, ?_⟩) | ((with_reducible refine gate_callee (f := 6) rfl ?_); refine goesL_ (some 27) rfl rfl Try.func6 (by kernel_rfl) rfl #[.slice A2 l2.length c2, .int .i64 t414] rfl (by (try simp only [mA_]); first | done | rfl | (simp only [List.length_drop, List.length_take]; rfl)) ?_; (with_reducible refine (laws_szIntA2S.calls _ _ l2 t414 t415 _ ?side1 ?side2 A8.out).mono ?_); (case side1 => repeat (first | exact HR2.out | (with_reducible refine Kd.C_alloc ?_ _) | (with_reducible refine Kd.C_drewN ?_ _) | (with_reducible refine Kd.C_drew ?_))); (case side2 => exact HC2.out); rintro e w' ⟨rfl, ⟨nd, rfl⟩⟩; refine ⟨_, rfl, ?_⟩))
  go_ret
  exact ⟨by first | rfl | (simp [errW_none, errW_some] <;> rfl) | (simp [*, errW_none, errW_some] <;> rfl), bw HB.out⟩
 rw [if_neg c9] at H
 have c9b0 : decide (t415 < 0) = false := decide_eq_false c9
 clear c9
 replace H := Option.bind_eq_some_iff.mp H
 obtain ⟨t416, A100, H⟩ := H
 replace H : ((laws_toIntA2S.f k l2).bind fun t419 => ((laws_toIntS.f k l3).bind fun t422 => ((spec_LongerWithout.f k t416 a1 t419 t422).bind fun bt425 => ((laws_toJobS.f k l0).bind fun t429 => ((laws_toIntA2S.f k l2).bind fun t432 => ((laws_toIntS.f k l3).bind fun t435 => ((impl_LongerWithout.f k t429 a1 t432 t435).bind fun bt438 => ((laws_eqIntA2.f bt438.1 bt438.2.1 bt425.1 bt425.2.1).bind fun t442 => (if t442 = true then (laws_FnExactLongerWithout.j0 k l0 l2 l3 t429 t432 t435 (bt438.2.2 != bt425.2.2)) else (laws_FnExactLongerWithout.j0 k l0 l2 l3 t429 t432 t435 true)))))))))) = some r := H
 have A10 := Aside0.mk A100
 clear A100
 replace H := Option.bind_eq_some_iff.mp H
 obtain ⟨t419, A110, H⟩ := H
 replace H : ((laws_toIntS.f k l3).bind fun t422 => ((spec_LongerWithout.f k t416 a1 t419 t422).bind fun bt425 => ((laws_toJobS.f k l0).bind fun t429 => ((laws_toIntA2S.f k l2).bind fun t432 => ((laws_toIntS.f k l3).bind fun t435 => ((impl_LongerWithout.f k t429 a1 t432 t435).bind fun bt438 => ((laws_eqIntA2.f bt438.1 bt438.2.1 bt425.1 bt425.2.1).bind fun t442 => (if t442 = true then (laws_FnExactLongerWithout.j0 k l0 l2 l3 t429 t432 t435 (bt438.2.2 != bt425.2.2)) else (laws_FnExactLongerWithout.j0 k l0 l2 l3 t429 t432 t435 true))))))))) = some r := H
 have A11 := Aside0.mk A110
 clear A110
 replace H := Option.bind_eq_some_iff.mp H
 obtain ⟨t422, A120, H⟩ := H
 replace H : ((spec_LongerWithout.f k t416 a1 t419 t422).bind fun bt425 => ((laws_toJobS.f k l0).bind fun t429 => ((laws_toIntA2S.f k l2).bind fun t432 => ((laws_toIntS.f k l3).bind fun t435 => ((impl_LongerWithout.f k t429 a1 t432 t435).bind fun bt438 => ((laws_eqIntA2.f bt438.1 bt438.2.1 bt425.1 bt425.2.1).bind fun t442 => (if t442 = true then (laws_FnExactLongerWithout.j0 k l0 l2 l3 t429 t432 t435 (bt438.2.2 != bt425.2.2)) else (laws_FnExactLongerWithout.j0 k l0 l2 l3 t429 t432 t435 true)))))))) = some r := H
 have A12 := Aside0.mk A120
 clear A120
 replace H := Option.bind_eq_some_iff.mp H
 obtain ⟨⟨t425, t426, t427⟩, A130, H⟩ := H
 replace H : ((laws_toJobS.f k l0).bind fun t429 => ((laws_toIntA2S.f k l2).bind fun t432 => ((laws_toIntS.f k l3).bind fun t435 => ((impl_LongerWithout.f k t429 a1 t432 t435).bind fun bt438 => ((laws_eqIntA2.f bt438.1 bt438.2.1 t425 t426).bind fun t442 => (if t442 = true then (laws_FnExactLongerWithout.j0 k l0 l2 l3 t429 t432 t435 (bt438.2.2 != t427)) else (laws_FnExactLongerWithout.j0 k l0 l2 l3 t429 t432 t435 true))))))) = some r := H
 have A13 := Aside0.mk A130
 clear A130
 replace H := Option.bind_eq_some_iff.mp H
 obtain ⟨t429, A140, H⟩ := H
 replace H : ((laws_toIntA2S.f k l2).bind fun t432 => ((laws_toIntS.f k l3).bind fun t435 => ((impl_LongerWithout.f k t429 a1 t432 t435).bind fun bt438 => ((laws_eqIntA2.f bt438.1 bt438.2.1 t425 t426).bind fun t442 => (if t442 = true then (laws_FnExactLongerWithout.j0 k l0 l2 l3 t429 t432 t435 (bt438.2.2 != t427)) else (laws_FnExactLongerWithout.j0 k l0 l2 l3 t429 t432 t435 true)))))) = some r := H
 have A14 := Aside0.mk A140
 clear A140
 replace H := Option.bind_eq_some_iff.mp H
 obtain ⟨t432, A150, H⟩ := H
 replace H : ((laws_toIntS.f k l3).bind fun t435 => ((impl_LongerWithout.f k t429 a1 t432 t435).bind fun bt438 => ((laws_eqIntA2.f bt438.1 bt438.2.1 t425 t426).bind fun t442 => (if t442 = true then (laws_FnExactLongerWithout.j0 k l0 l2 l3 t429 t432 t435 (bt438.2.2 != t427)) else (laws_FnExactLongerWithout.j0 k l0 l2 l3 t429 t432 t435 true))))) = some r := H
 have A15 := Aside0.mk A150
 clear A150
 replace H := Option.bind_eq_some_iff.mp H
 obtain ⟨t435, A160, H⟩ := H
 replace H : ((impl_LongerWithout.f k t429 a1 t432 t435).bind fun bt438 => ((laws_eqIntA2.f bt438.1 bt438.2.1 t425 t426).bind fun t442 => (if t442 = true then (laws_FnExactLongerWithout.j0 k l0 l2 l3 t429 t432 t435 (bt438.2.2 != t427)) else (laws_FnExactLongerWithout.j0 k l0 l2 l3 t429 t432 t435 true)))) = some r := H
 have A16 := Aside0.mk A160
 clear A160
 replace H := Option.bind_eq_some_iff.mp H
 obtain ⟨⟨t438, t439, t440⟩, A170, H⟩ := H
 replace H : ((laws_eqIntA2.f t438 t439 t425 t426).bind fun t442 => (if t442 = true then (laws_FnExactLongerWithout.j0 k l0 l2 l3 t429 t432 t435 (t440 != t427)) else (laws_FnExactLongerWithout.j0 k l0 l2 l3 t429 t432 t435 true))) = some r := H
 have A17 := Aside0.mk A170
 clear A170
 have HC18 := Aside0.mk H
 clear H
 go_enter Try.func4, Try.ntmps4
 go_upto_region 15 with (first | ((with_reducible refine gate_callee (f := 5) rfl ?_); refine goesL_ (some 22) rfl rfl Try.func5 (by kernel_rfl) rfl #[.slice A0 l0.length c0, .int .i64 1048576] rfl (by (try simp only [mA_]); first | done | rfl | (simp only [List.length_drop, List.length_take]; rfl)) ?_; (with_reducible refine (laws_szJobS.calls _ _ l0 1048576 t414 _ ?side1 ?side2 A6.out).mono ?_); (case side1 => repeat (first | exact HR0.out | (with_reducible refine Kd.C_alloc ?_ _) | (with_reducible refine Kd.C_drewN ?_ _) | (with_reducible refine Kd.C_drew ?_))); (case side2 => exact HC0.out); rintro e w' ⟨rfl, ⟨nd, rfl⟩⟩; refine ⟨_, rfl, ?_⟩) | ((with_reducible refine gate_callee (f := 6) rfl ?_); refine goesL_ (some 27) rfl rfl Try.func6 (by kernel_rfl) rfl #[.slice A2 l2.length c2, .int .i64 t414] rfl (by (try simp only [mA_]); first | done | rfl | (simp only [List.length_drop, List.length_take]; rfl)) ?_; (with_reducible refine (laws_szIntA2S.calls _ _ l2 t414 t415 _ ?side1 ?side2 A8.out).mono ?_); (case side1 => repeat (first | exact HR2.out | (with_reducible refine Kd.C_alloc ?_ _) | (with_reducible refine Kd.C_drewN ?_ _) | (with_reducible refine Kd.C_drew ?_))); (case side2 => exact HC2.out); rintro e w' ⟨rfl, ⟨nd, rfl⟩⟩; refine ⟨_, rfl, ?_⟩) | ((with_reducible refine gate_callee (f := 8) rfl ?_); refine goesL_ (some 32) rfl rfl Try.func8 (by kernel_rfl) rfl #[.slice A0 l0.length c0] rfl (by (try simp only [mA_]); first | done | rfl | (simp only [List.length_drop, List.length_take]; rfl)) ?_; (with_reducible refine (laws_toJobS.calls k _ _ l0 t416 _ ?side1 ?side2 A10.out).mono ?_); (case side1 => repeat (first | exact HR0.out | (with_reducible refine Kd.C_alloc ?_ _) | (with_reducible refine Kd.C_drewN ?_ _) | (with_reducible refine Kd.C_drew ?_))); (case side2 => exact HC0.out); rintro e w19 ⟨v417, rfl, ho0, hb⟩; refine ⟨_, rfl, ?_⟩; have n0_ := Aside0.mk (Kd.R_lower ho0 (below_size (bw HB.out))); have n1_ := Aside0.mk (below_step (bw HB.out) hb); have HO418 := n0_; replace HB := n1_; clear n0_ n1_; (try clear hb); (try clear hb2); (try clear hk); (try clear hi); (try clear ho0)) | ((with_reducible refine gate_callee (f := 9) rfl ?_); refine goesL_ (some 35) rfl rfl Try.func9 (by kernel_rfl) rfl #[.slice A2 l2.length c2] rfl (by (try simp only [mA_]); first | done | rfl | (simp only [List.length_drop, List.length_take]; rfl)) ?_; (with_reducible refine (laws_toIntA2S.calls k _ _ l2 t419 _ ?side1 ?side2 A11.out).mono ?_); (case side1 => first | exact bC HR2.out HB.out | exact Kd.C_below HR2.out HB.out); (case side2 => exact HC2.out); rintro e w20 ⟨v420, rfl, ho0, hb⟩; refine ⟨_, rfl, ?_⟩; have n0_ := Aside0.mk (Kd.R_below (bR HO418.out) hb); have n1_ := Aside0.mk (Kd.R_lower ho0 (below_size (bw HB.out))); have n2_ := Aside0.mk (below_step (bw HB.out) hb); replace HO418 := n0_; have HO421 := n1_; replace HB := n2_; clear n0_ n1_ n2_; (try clear hb); (try clear hb2); (try clear hk); (try clear hi); (try clear ho0)) | ((with_reducible refine gate_callee (f := 10) rfl ?_); refine goesL_ (some 37) rfl rfl Try.func10 (by kernel_rfl) rfl #[.slice A3 l3.length c3] rfl (by (try simp only [mA_]); first | done | rfl | (simp only [List.length_drop, List.length_take]; rfl)) ?_; (with_reducible refine (laws_toIntS.calls k _ _ l3 t422 _ ?side1 ?side2 A12.out).mono ?_); (case side1 => first | exact bC HR3.out HB.out | exact Kd.C_below HR3.out HB.out); (case side2 => exact HC3.out); rintro e w21 ⟨v423, rfl, ho0, hb⟩; refine ⟨_, rfl, ?_⟩; have n0_ := Aside0.mk (Kd.R_below (bR HO418.out) hb); have n1_ := Aside0.mk (Kd.R_below (bR HO421.out) hb); have n2_ := Aside0.mk (Kd.R_lower ho0 (below_size (bw HB.out))); have n3_ := Aside0.mk (below_step (bw HB.out) hb); replace HO418 := n0_; replace HO421 := n1_; have HO424 := n2_; replace HB := n3_; clear n0_ n1_ n2_ n3_; (try clear hb); (try clear hb2); (try clear hk); (try clear hi); (try clear ho0); obtain ⟨Ao22, co22, eo22⟩ := Kd.R_slice HO418.out; subst eo22; obtain ⟨Ao23, co23, eo23⟩ := Kd.R_slice HO421.out; subst eo23; obtain ⟨Ao24, co24, eo24⟩ := Kd.R_slice HO424.out; subst eo24) | ((with_reducible refine gate_callee (f := 15) rfl ?_); refine goesL_ (some 38) rfl rfl Try.func15 (by kernel_rfl) rfl #[.slice Ao22 t416.length co22, .int .i64 a1, .slice Ao23 t419.length co23, .slice Ao24 t422.length co24] rfl (by (try simp only [mA_]); first | done | rfl | (simp only [List.length_drop, List.length_take]; rfl)) ?_; (with_reducible refine (spec_LongerWithout.calls k _ _ t416 a1 _ _ t419 _ _ t422 t425 t426 t427 _ ?side1 ?side2 ?side3 ?side4 ?side5 ?side6 A13.out).mono ?_); (case side1 => repeat (first | exact (Kd.R_reads' HO418.out).2.2 | (with_reducible refine Kd.C_alloc ?_ _) | (with_reducible refine Kd.C_drewN ?_ _) | (with_reducible refine Kd.C_drew ?_))); (case side2 => exact (Kd.R_reads' HO418.out).2.1); (case side3 => repeat (first | exact (Kd.R_reads' HO421.out).2.2 | (with_reducible refine Kd.C_alloc ?_ _) | (with_reducible refine Kd.C_drewN ?_ _) | (with_reducible refine Kd.C_drew ?_))); (case side4 => exact (Kd.R_reads' HO421.out).2.1); (case side5 => repeat (first | exact (Kd.R_reads' HO424.out).2.2 | (with_reducible refine Kd.C_alloc ?_ _) | (with_reducible refine Kd.C_drewN ?_ _) | (with_reducible refine Kd.C_drew ?_))); (case side6 => exact (Kd.R_reads' HO424.out).2.1); rintro e w25 ⟨rfl, hb⟩; refine ⟨_, rfl, ?_⟩; have n0_ := Aside0.mk (Kd.R_below (bR HO418.out) hb); have n1_ := Aside0.mk (Kd.R_below (bR HO421.out) hb); have n2_ := Aside0.mk (Kd.R_below (bR HO424.out) hb); have n3_ := Aside0.mk (below_step (bw HB.out) hb); replace HO418 := n0_; replace HO421 := n1_; replace HO424 := n2_; replace HB := n3_; clear n0_ n1_ n2_ n3_; (try clear hb); (try clear hb2); (try clear hk); (try clear hi)) | ((with_reducible refine gate_dst (N := 10) rfl ?_); refine box_event ?hg (N := 10) ?hd (cs := #[.int .i64 0, .int .i64 0]) (t := 37) ?hr ?_; (case hd => rfl); (case hg => rfl); (case hr => first | (go_simp; done) | (go_simp; rfl)); intro gb428 hg w26 hbox hb; have n0_ := Aside0.mk (Kd.R_below (bR HO418.out) hb); have n1_ := Aside0.mk (Kd.R_below (Kd.R_elderB (bR HO421.out) gb428 (Nat.le_of_eq hg.symm)) hb); have n2_ := Aside0.mk (Kd.R_below (bR HO424.out) hb); have n3_ := Aside0.mk (below_step (bw HB.out) hb); have n4_ := Aside0.mk (hbox); have n5_ := ge_ hg HB.out; have n6_ := ge_ hg HB.out; replace HO418 := n0_; replace HO421 := n1_; replace HO424 := n2_; replace HB := n3_; have BK428 := n4_; have GW428 := n5_; have GE428 := n6_; clear n0_ n1_ n2_ n3_ n4_ n5_ n6_; clear hb hbox hg; obtain ⟨hcz27_0, hcz27_1, hfz27_0, hfz27_1⟩ := bz2 BK428.out) | ((with_reducible refine gate_callee (f := 8) rfl ?_); refine goesL_ (some 42) rfl rfl Try.func8 (by kernel_rfl) rfl #[.slice A0 l0.length c0] rfl (by (try simp only [mA_]); first | done | rfl | (simp only [List.length_drop, List.length_take]; rfl)) ?_; (with_reducible refine (laws_toJobS.calls k _ _ l0 t429 _ ?side1 ?side2 A14.out).mono ?_); (case side1 => exact Kd.C_below HR0.out (by repeat (first | (with_reducible first | exact bw HB.out | refine bset ?_ | apply bA | apply bN | apply bD) | exact HB.out))); (case side2 => exact HC0.out); rintro e w28 ⟨v430, rfl, ho0, hb⟩; refine ⟨_, rfl, ?_⟩; have n0_ := Aside0.mk (Kd.R_elder' (by (with_reducible repeat (first | apply Kd.R_alloc | apply Kd.R_drewN | apply Kd.R_drew)); exact (Kd.R_mono (Kd.R_far (p := ⟨gb428, 1, none⟩) (Kd.R_far (p := ⟨gb428, 0, none⟩) (Kd.R_types HO418.out BK428.out (by decide)) (fun _ hk => hk.2) (.int .i64 t425)) (fun _ hk => hk.2) (.int .i64 t426)) (fun _ h_ => h_.1))) (Kd.R_base ho0) hb); have n1_ := Aside0.mk (Kd.R_below (by (with_reducible repeat (first | apply Kd.R_alloc | apply Kd.R_drewN | apply Kd.R_drew)); exact (Kd.R_mono (Kd.R_far (p := ⟨gb428, 1, none⟩) (Kd.R_far (p := ⟨gb428, 0, none⟩) (Kd.R_mono HO421.out (fun k_ hk => (⟨hk, hk.2⟩ : _ ∧ k_ ≠ gb428))) (fun _ hk => hk.2) (.int .i64 t425)) (fun _ hk => hk.2) (.int .i64 t426)) (fun _ h_ => h_.1))) hb); have n2_ := Aside0.mk (Kd.R_below (by (with_reducible repeat (first | apply Kd.R_alloc | apply Kd.R_drewN | apply Kd.R_drew)); exact (Kd.R_mono (Kd.R_far (p := ⟨gb428, 1, none⟩) (Kd.R_far (p := ⟨gb428, 0, none⟩) (Kd.R_types HO424.out BK428.out (by decide)) (fun _ hk => hk.2) (.int .i64 t425)) (fun _ hk => hk.2) (.int .i64 t426)) (fun _ h_ => h_.1))) hb); have n3_ := Aside0.mk (Kd.R_lower (Kd.R_new' ho0 (Kd.R_lt (by (with_reducible repeat (first | apply Kd.R_alloc | apply Kd.R_drewN | apply Kd.R_drew)); exact (Kd.R_mono (Kd.R_far (p := ⟨gb428, 1, none⟩) (Kd.R_far (p := ⟨gb428, 0, none⟩) (Kd.R_types HO418.out BK428.out (by decide)) (fun _ hk => hk.2) (.int .i64 t425)) (fun _ hk => hk.2) (.int .i64 t426)) (fun _ h_ => h_.1))))) (below_size (by repeat (first | (with_reducible first | exact bw HB.out | refine bset ?_ | apply bA | apply bN | apply bD) | exact HB.out)))); have n4_ := Aside0.mk (blk_below (g := gb428) (o := .cells #[.int .i64 t425, .int .i64 t426] 37 (0, 0)) (by (with_reducible repeat (first | refine blk_drewN ?_ _ | refine blk_drew ?_ | refine blk_alloc ?_ _)); refine blk_put (cs := #[.int .i64 t425, .int .i64 0]) ?_ 1 _ rfl; (with_reducible repeat (first | refine blk_drewN ?_ _ | refine blk_drew ?_ | refine blk_alloc ?_ _)); refine blk_put (cs := #[.int .i64 0, .int .i64 0]) ?_ 0 _ rfl; exact bs BK428.out) hb); have n5_ := Aside0.mk (below_step (by repeat (first | (with_reducible first | exact bw HB.out | refine bset ?_ | apply bA | apply bN | apply bD) | exact HB.out)) hb); replace HO418 := n0_; replace HO421 := n1_; replace HO424 := n2_; have HO431 := n3_; replace BK428 := n4_; replace HB := n5_; clear n0_ n1_ n2_ n3_ n4_ n5_; (try clear hb); (try clear hb2); (try clear hk); (try clear hi); (try clear ho0)) | ((with_reducible refine gate_callee (f := 9) rfl ?_); refine goesL_ (some 44) rfl rfl Try.func9 (by kernel_rfl) rfl #[.slice A2 l2.length c2] rfl (by (try simp only [mA_]); first | done | rfl | (simp only [List.length_drop, List.length_take]; rfl)) ?_; (with_reducible refine (laws_toIntA2S.calls k _ _ l2 t432 _ ?side1 ?side2 A15.out).mono ?_); (case side1 => first | exact bC HR2.out HB.out | exact Kd.C_below HR2.out HB.out); (case side2 => exact HC2.out); rintro e w29 ⟨v433, rfl, ho0, hb⟩; refine ⟨_, rfl, ?_⟩; have n0_ := Aside0.mk (Kd.R_below (bR HO418.out) hb); have n1_ := Aside0.mk (Kd.R_elder' (bR HO421.out) (Kd.R_base ho0) hb); have n2_ := Aside0.mk (Kd.R_below (bR HO424.out) hb); have n3_ := Aside0.mk (Kd.R_below (bR HO431.out) hb); have n4_ := Aside0.mk (Kd.R_lower (Kd.R_newB (Kd.R_new' ho0 (Kd.R_lt (bR HO421.out))) (bs BK428.out)) (below_size (by repeat (first | (with_reducible first | exact bw HB.out | refine bset ?_ | apply bA | apply bN | apply bD) | exact HB.out)))); have n5_ := Aside0.mk (blk_below (bs BK428.out) hb); have n6_ := Aside0.mk (below_step (by repeat (first | (with_reducible first | exact bw HB.out | refine bset ?_ | apply bA | apply bN | apply bD) | exact HB.out)) hb); replace HO418 := n0_; replace HO421 := n1_; replace HO424 := n2_; replace HO431 := n3_; have HO434 := n4_; replace BK428 := n5_; replace HB := n6_; clear n0_ n1_ n2_ n3_ n4_ n5_ n6_; (try clear hb); (try clear hb2); (try clear hk); (try clear hi); (try clear ho0)) | ((with_reducible refine gate_callee (f := 10) rfl ?_); refine goesL_ (some 46) rfl rfl Try.func10 (by kernel_rfl) rfl #[.slice A3 l3.length c3] rfl (by (try simp only [mA_]); first | done | rfl | (simp only [List.length_drop, List.length_take]; rfl)) ?_; (with_reducible refine (laws_toIntS.calls k _ _ l3 t435 _ ?side1 ?side2 A16.out).mono ?_); (case side1 => first | exact bC HR3.out HB.out | exact Kd.C_below HR3.out HB.out); (case side2 => exact HC3.out); rintro e w30 ⟨v436, rfl, ho0, hb⟩; refine ⟨_, rfl, ?_⟩; have n0_ := Aside0.mk (Kd.R_below (bR HO418.out) hb); have n1_ := Aside0.mk (Kd.R_below (bR HO421.out) hb); have n2_ := Aside0.mk (Kd.R_elder' (bR HO424.out) (Kd.R_base ho0) hb); have n3_ := Aside0.mk (Kd.R_below (bR HO431.out) hb); have n4_ := Aside0.mk (Kd.R_below (bR HO434.out) hb); have n5_ := Aside0.mk (Kd.R_lower (Kd.R_new' ho0 (Kd.R_lt (bR HO424.out))) (below_size (by repeat (first | (with_reducible first | exact bw HB.out | refine bset ?_ | apply bA | apply bN | apply bD) | exact HB.out)))); have n6_ := Aside0.mk (blk_below (bs BK428.out) hb); have n7_ := Aside0.mk (below_step (by repeat (first | (with_reducible first | exact bw HB.out | refine bset ?_ | apply bA | apply bN | apply bD) | exact HB.out)) hb); replace HO418 := n0_; replace HO421 := n1_; replace HO424 := n2_; replace HO431 := n3_; replace HO434 := n4_; have HO437 := n5_; replace BK428 := n6_; replace HB := n7_; clear n0_ n1_ n2_ n3_ n4_ n5_ n6_ n7_; (try clear hb); (try clear hb2); (try clear hk); (try clear hi); (try clear ho0); obtain ⟨Ao31, co31, eo31⟩ := Kd.R_slice HO431.out; subst eo31; obtain ⟨Ao32, co32, eo32⟩ := Kd.R_slice HO434.out; subst eo32; obtain ⟨Ao33, co33, eo33⟩ := Kd.R_slice HO437.out; subst eo33) | ((with_reducible refine gate_callee (f := 16) rfl ?_); refine goesL_ (some 52) rfl rfl Try.func16 (by kernel_rfl) rfl #[.slice Ao31 t429.length co31, .int .i64 a1, .slice Ao32 t432.length co32, .slice Ao33 t435.length co33] rfl (by (try simp only [mA_]); first | done | rfl | (simp only [List.length_drop, List.length_take]; rfl)) ?_; (with_reducible refine (impl_LongerWithout.calls k _ _ t429 a1 _ _ t432 _ _ t435 t438 t439 t440 _ ?side1 ?side2 ?side3 ?side4 ?side5 ?side6 A17.out).mono ?_); (case side1 => repeat (first | exact (Kd.R_reads' HO431.out).2.2 | (with_reducible refine Kd.C_alloc ?_ _) | (with_reducible refine Kd.C_drewN ?_ _) | (with_reducible refine Kd.C_drew ?_))); (case side2 => exact (Kd.R_reads' HO431.out).2.1); (case side3 => repeat (first | exact (Kd.R_reads' HO434.out).2.2 | (with_reducible refine Kd.C_alloc ?_ _) | (with_reducible refine Kd.C_drewN ?_ _) | (with_reducible refine Kd.C_drew ?_))); (case side4 => exact (Kd.R_reads' HO434.out).2.1); (case side5 => repeat (first | exact (Kd.R_reads' HO437.out).2.2 | (with_reducible refine Kd.C_alloc ?_ _) | (with_reducible refine Kd.C_drewN ?_ _) | (with_reducible refine Kd.C_drew ?_))); (case side6 => exact (Kd.R_reads' HO437.out).2.1); rintro e w34 ⟨rfl, hb⟩; refine ⟨_, rfl, ?_⟩; have n0_ := Aside0.mk (Kd.R_below (bR HO418.out) hb); have n1_ := Aside0.mk (Kd.R_below (bR HO421.out) hb); have n2_ := Aside0.mk (Kd.R_below (bR HO424.out) hb); have n3_ := Aside0.mk (Kd.R_below (bR HO431.out) hb); have n4_ := Aside0.mk (Kd.R_below (bR HO434.out) hb); have n5_ := Aside0.mk (Kd.R_below (bR HO437.out) hb); have n6_ := Aside0.mk (blk_below (bs BK428.out) hb); have n7_ := Aside0.mk (below_step (by repeat (first | (with_reducible first | exact bw HB.out | refine bset ?_ | apply bA | apply bN | apply bD) | exact HB.out)) hb); replace HO418 := n0_; replace HO421 := n1_; replace HO424 := n2_; replace HO431 := n3_; replace HO434 := n4_; replace HO437 := n5_; replace BK428 := n6_; replace HB := n7_; clear n0_ n1_ n2_ n3_ n4_ n5_ n6_ n7_; (try clear hb); (try clear hb2); (try clear hk); (try clear hi)) | ((with_reducible refine gate_dst (N := 15) rfl ?_); refine box_event ?hg (N := 15) ?hd (cs := #[.int .i64 0, .int .i64 0]) (t := 37) ?hr ?_; (case hd => rfl); (case hg => rfl); (case hr => first | (go_simp; done) | (go_simp; rfl)); intro gb441 hg w35 hbox hb; have n0_ := Aside0.mk (Kd.R_below (bR HO418.out) hb); have n1_ := Aside0.mk (Kd.R_below (Kd.R_elderB (bR HO421.out) gb441 (Nat.le_of_eq hg.symm)) hb); have n2_ := Aside0.mk (Kd.R_below (bR HO424.out) hb); have n3_ := Aside0.mk (Kd.R_below (bR HO431.out) hb); have n4_ := Aside0.mk (Kd.R_below (Kd.R_elderB (bR HO434.out) gb441 (Nat.le_of_eq hg.symm)) hb); have n5_ := Aside0.mk (Kd.R_below (bR HO437.out) hb); have n6_ := Aside0.mk (blk_below (bs BK428.out) hb); have n7_ := Aside0.mk (below_step (by repeat (first | (with_reducible first | exact bw HB.out | refine bset ?_ | apply bA | apply bN | apply bD) | exact HB.out)) hb); have n8_ := Aside0.mk (hbox); have n9_ := Aside0.mk ((by rw [hg]; exact (below_size (by repeat (first | (with_reducible first | exact bw HB.out | refine bset ?_ | apply bA | apply bN | apply bD) | exact HB.out))) : w.heap.size ≤ gb441)); have n10_ := Aside0.mk ((by rw [hg]; exact (below_size (by repeat (first | (with_reducible first | exact bw HB.out | refine bset ?_ | apply bA | apply bN | apply bD) | exact HB.out))) : w.heap.size ≤ gb441)); have n11_ := ne_ hg BK428.out; have n12_ := en_ hg BK428.out; replace HO418 := n0_; replace HO421 := n1_; replace HO424 := n2_; replace HO431 := n3_; replace HO434 := n4_; replace HO437 := n5_; replace BK428 := n6_; replace HB := n7_; have BK441 := n8_; have GW441 := n9_; have GE441 := n10_; have NB428_441 := n11_; have NB441_428 := n12_; clear n0_ n1_ n2_ n3_ n4_ n5_ n6_ n7_ n8_ n9_ n10_ n11_ n12_; clear hb hbox hg; have hnb36 := NB441_428.out; have hnc36 := NB428_441.out; obtain ⟨hcz37_0, hcz37_1, hfz37_0, hfz37_1⟩ := bz2 BK441.out))
 (try simp only [Act.put, List.setIfInBounds_toArray, List.set_cons_zero, List.set_cons_succ])
 go_cut [63] (fun v63 wc => ∃ (kq : Nat) (x63_17 : Bool), v63 = .bool x63_17 ∧ Aside0 (laws_FnExactLongerWithout.j0 kq l0 l2 l3 t429 t432 t435 x63_17 = some r) ∧ Aside0 (kq ≤ k) ∧ Aside0 (Kd.R k46 46 wc w.heap.size (fun _ => True) (.slice Ao31 t429.length co31) t429) ∧ Aside0 (Kd.R k37 37 wc w.heap.size (fun k_ => k_ ≠ gb428 ∧ k_ ≠ gb441) (.slice Ao32 t432.length co32) t432) ∧ Aside0 (Kd.R (Kd.int .i64) 3 wc w.heap.size (fun _ => True) (.slice Ao33 t435.length co33) t435) ∧ Aside0 (wc.heap[gb428]? = some (.cells #[.int .i64 t425, .int .i64 t426] 37 (0, 0))) ∧ Aside0 (wc.heap[gb441]? = some (.cells #[.int .i64 t438, .int .i64 t439] 37 (0, 0))) ∧ Aside0 (Below w.heap.size w wc))
 case first =>
  have H := HC18.out
  clear HC18
  replace H := Option.bind_eq_some_iff.mp H
  obtain ⟨t442, A380, H⟩ := H
  replace H : (if t442 = true then (laws_FnExactLongerWithout.j0 k l0 l2 l3 t429 t432 t435 (t440 != t427)) else (laws_FnExactLongerWithout.j0 k l0 l2 l3 t429 t432 t435 true)) = some r := H
  have A38 := Aside0.mk A380
  clear A380
  by_cases c39 : t442 = true
  ·subst c39
   have H1 : (laws_FnExactLongerWithout.j0 k l0 l2 l3 t429 t432 t435 (t440 != t427)) = some r := by rw [if_pos rfl] at H; exact H
   clear H
   have H := H1
   clear H1
   have H' := Aside0.mk H
   clear H
   have hnb40 := NB441_428.out
   have hnc40 := NB428_441.out
   obtain ⟨hcz41_0, hcz41_1, hfz41_0, hfz41_1⟩ := bz2 BK441.out
   obtain ⟨hcz42_0, hcz42_1, hfz42_0, hfz42_1⟩ := bz2 BK428.out
   go_wp2_with (first | ((with_reducible refine gate_callee (f := 17) rfl ?_); refine goesL_ (some 57) rfl rfl Try.func17 (by kernel_rfl) rfl #[.agg #[.int .i64 t438, .int .i64 t439], .agg #[.int .i64 t425, .int .i64 t426]] rfl (by (try simp only [mA_]); first | done | rfl | (simp only [List.length_drop, List.length_take]; rfl)) ?_; (with_reducible refine (laws_eqIntA2.calls t438 t439 t425 t426 true _ A38.out).mono ?_); rintro e w43 ⟨rfl, hb⟩; refine ⟨_, rfl, ?_⟩; have n0_ := Aside0.mk (Kd.R_below (by (with_reducible repeat (first | apply Kd.R_alloc | apply Kd.R_drewN | apply Kd.R_drew)); exact (Kd.R_mono (Kd.R_far (p := ⟨gb441, 1, none⟩) (Kd.R_far (p := ⟨gb441, 0, none⟩) (Kd.R_types HO418.out BK441.out (by decide)) (fun _ hk => hk.2) (.int .i64 t438)) (fun _ hk => hk.2) (.int .i64 t439)) (fun _ h_ => h_.1))) hb); have n1_ := Aside0.mk (Kd.R_below (by (with_reducible repeat (first | apply Kd.R_alloc | apply Kd.R_drewN | apply Kd.R_drew)); exact (Kd.R_mono (Kd.R_far (p := ⟨gb441, 1, none⟩) (Kd.R_far (p := ⟨gb441, 0, none⟩) (Kd.R_mono HO421.out (fun k_ hk => (⟨hk, hk.2⟩ : _ ∧ k_ ≠ gb441))) (fun _ hk => hk.2) (.int .i64 t438)) (fun _ hk => hk.2) (.int .i64 t439)) (fun _ h_ => h_.1))) hb); have n2_ := Aside0.mk (Kd.R_below (by (with_reducible repeat (first | apply Kd.R_alloc | apply Kd.R_drewN | apply Kd.R_drew)); exact (Kd.R_mono (Kd.R_far (p := ⟨gb441, 1, none⟩) (Kd.R_far (p := ⟨gb441, 0, none⟩) (Kd.R_types HO424.out BK441.out (by decide)) (fun _ hk => hk.2) (.int .i64 t438)) (fun _ hk => hk.2) (.int .i64 t439)) (fun _ h_ => h_.1))) hb); have n3_ := Aside0.mk (Kd.R_below (by (with_reducible repeat (first | apply Kd.R_alloc | apply Kd.R_drewN | apply Kd.R_drew)); exact (Kd.R_mono (Kd.R_far (p := ⟨gb441, 1, none⟩) (Kd.R_far (p := ⟨gb441, 0, none⟩) (Kd.R_types HO431.out BK441.out (by decide)) (fun _ hk => hk.2) (.int .i64 t438)) (fun _ hk => hk.2) (.int .i64 t439)) (fun _ h_ => h_.1))) hb); have n4_ := Aside0.mk (Kd.R_below (by (with_reducible repeat (first | apply Kd.R_alloc | apply Kd.R_drewN | apply Kd.R_drew)); exact (Kd.R_mono (Kd.R_far (p := ⟨gb441, 1, none⟩) (Kd.R_far (p := ⟨gb441, 0, none⟩) (Kd.R_mono HO434.out (fun k_ hk => (⟨hk, hk.2⟩ : _ ∧ k_ ≠ gb441))) (fun _ hk => hk.2) (.int .i64 t438)) (fun _ hk => hk.2) (.int .i64 t439)) (fun _ h_ => h_.1))) hb); have n5_ := Aside0.mk (Kd.R_below (by (with_reducible repeat (first | apply Kd.R_alloc | apply Kd.R_drewN | apply Kd.R_drew)); exact (Kd.R_mono (Kd.R_far (p := ⟨gb441, 1, none⟩) (Kd.R_far (p := ⟨gb441, 0, none⟩) (Kd.R_types HO437.out BK441.out (by decide)) (fun _ hk => hk.2) (.int .i64 t438)) (fun _ hk => hk.2) (.int .i64 t439)) (fun _ h_ => h_.1))) hb); have n6_ := Aside0.mk (blk_below (g := gb428) (o := .cells #[.int .i64 t425, .int .i64 t426] 37 (0, 0)) (by (with_reducible repeat (first | refine blk_drewN ?_ _ | refine blk_drew ?_ | refine blk_alloc ?_ _)); refine blk_far ?_ NB428_441.out _; (with_reducible repeat (first | refine blk_drewN ?_ _ | refine blk_drew ?_ | refine blk_alloc ?_ _)); refine blk_far ?_ NB428_441.out _; exact bs BK428.out) hb); have n7_ := Aside0.mk (blk_below (g := gb441) (o := .cells #[.int .i64 t438, .int .i64 t439] 37 (0, 0)) (by (with_reducible repeat (first | refine blk_drewN ?_ _ | refine blk_drew ?_ | refine blk_alloc ?_ _)); refine blk_put (cs := #[.int .i64 t438, .int .i64 0]) ?_ 1 _ rfl; (with_reducible repeat (first | refine blk_drewN ?_ _ | refine blk_drew ?_ | refine blk_alloc ?_ _)); refine blk_put (cs := #[.int .i64 0, .int .i64 0]) ?_ 0 _ rfl; exact bs BK441.out) hb); have n8_ := Aside0.mk (below_step (by repeat (first | (with_reducible first | exact bw HB.out | refine bset ?_ | apply bA | apply bN | apply bD) | exact HB.out)) hb); replace HO418 := n0_; replace HO421 := n1_; replace HO424 := n2_; replace HO431 := n3_; replace HO434 := n4_; replace HO437 := n5_; replace BK428 := n6_; replace BK441 := n7_; replace HB := n8_; clear n0_ n1_ n2_ n3_ n4_ n5_ n6_ n7_ n8_; (try clear hb); (try clear hb2); (try clear hk); (try clear hi)))
   go_meet
   case rel => exact ⟨_, ((t440 != t427)), (by first | rfl | (simp; done) | (simp [*]; done)), H', ⟨by first | omega | exact Nat.le_refl _⟩, ⟨by (with_reducible repeat (first | apply Kd.R_alloc | apply Kd.R_drewN | apply Kd.R_drew)); exact Kd.R_mono HO431.out (fun _ hk => trivial)⟩, ⟨by (with_reducible repeat (first | apply Kd.R_alloc | apply Kd.R_drewN | apply Kd.R_drew)); exact Kd.R_mono HO434.out (fun _ hk => ⟨hk.1.2, hk.2⟩)⟩, ⟨by (with_reducible repeat (first | apply Kd.R_alloc | apply Kd.R_drewN | apply Kd.R_drew)); exact Kd.R_mono HO437.out (fun _ hk => trivial)⟩, ⟨bs BK428.out⟩, ⟨bs BK441.out⟩, ⟨by repeat (first | (with_reducible first | exact bw HB.out | refine bset ?_ | apply bA | apply bN | apply bD) | exact HB.out)⟩⟩
  replace c39 := Bool.eq_false_iff.mpr c39
  subst c39
  have H1 : (laws_FnExactLongerWithout.j0 k l0 l2 l3 t429 t432 t435 true) = some r := by rw [if_neg (show ¬ (false = true) by decide)] at H; exact H
  clear H
  have H := H1
  clear H1
  have H' := Aside0.mk H
  clear H
  have hnb44 := NB441_428.out
  have hnc44 := NB428_441.out
  obtain ⟨hcz45_0, hcz45_1, hfz45_0, hfz45_1⟩ := bz2 BK441.out
  obtain ⟨hcz46_0, hcz46_1, hfz46_0, hfz46_1⟩ := bz2 BK428.out
  go_wp2_with (first | ((with_reducible refine gate_callee (f := 17) rfl ?_); refine goesL_ (some 57) rfl rfl Try.func17 (by kernel_rfl) rfl #[.agg #[.int .i64 t438, .int .i64 t439], .agg #[.int .i64 t425, .int .i64 t426]] rfl (by (try simp only [mA_]); first | done | rfl | (simp only [List.length_drop, List.length_take]; rfl)) ?_; (with_reducible refine (laws_eqIntA2.calls t438 t439 t425 t426 false _ A38.out).mono ?_); rintro e w47 ⟨rfl, hb⟩; refine ⟨_, rfl, ?_⟩; have n0_ := Aside0.mk (Kd.R_below (by (with_reducible repeat (first | apply Kd.R_alloc | apply Kd.R_drewN | apply Kd.R_drew)); exact (Kd.R_mono (Kd.R_far (p := ⟨gb441, 1, none⟩) (Kd.R_far (p := ⟨gb441, 0, none⟩) (Kd.R_types HO418.out BK441.out (by decide)) (fun _ hk => hk.2) (.int .i64 t438)) (fun _ hk => hk.2) (.int .i64 t439)) (fun _ h_ => h_.1))) hb); have n1_ := Aside0.mk (Kd.R_below (by (with_reducible repeat (first | apply Kd.R_alloc | apply Kd.R_drewN | apply Kd.R_drew)); exact (Kd.R_mono (Kd.R_far (p := ⟨gb441, 1, none⟩) (Kd.R_far (p := ⟨gb441, 0, none⟩) (Kd.R_mono HO421.out (fun k_ hk => (⟨hk, hk.2⟩ : _ ∧ k_ ≠ gb441))) (fun _ hk => hk.2) (.int .i64 t438)) (fun _ hk => hk.2) (.int .i64 t439)) (fun _ h_ => h_.1))) hb); have n2_ := Aside0.mk (Kd.R_below (by (with_reducible repeat (first | apply Kd.R_alloc | apply Kd.R_drewN | apply Kd.R_drew)); exact (Kd.R_mono (Kd.R_far (p := ⟨gb441, 1, none⟩) (Kd.R_far (p := ⟨gb441, 0, none⟩) (Kd.R_types HO424.out BK441.out (by decide)) (fun _ hk => hk.2) (.int .i64 t438)) (fun _ hk => hk.2) (.int .i64 t439)) (fun _ h_ => h_.1))) hb); have n3_ := Aside0.mk (Kd.R_below (by (with_reducible repeat (first | apply Kd.R_alloc | apply Kd.R_drewN | apply Kd.R_drew)); exact (Kd.R_mono (Kd.R_far (p := ⟨gb441, 1, none⟩) (Kd.R_far (p := ⟨gb441, 0, none⟩) (Kd.R_types HO431.out BK441.out (by decide)) (fun _ hk => hk.2) (.int .i64 t438)) (fun _ hk => hk.2) (.int .i64 t439)) (fun _ h_ => h_.1))) hb); have n4_ := Aside0.mk (Kd.R_below (by (with_reducible repeat (first | apply Kd.R_alloc | apply Kd.R_drewN | apply Kd.R_drew)); exact (Kd.R_mono (Kd.R_far (p := ⟨gb441, 1, none⟩) (Kd.R_far (p := ⟨gb441, 0, none⟩) (Kd.R_mono HO434.out (fun k_ hk => (⟨hk, hk.2⟩ : _ ∧ k_ ≠ gb441))) (fun _ hk => hk.2) (.int .i64 t438)) (fun _ hk => hk.2) (.int .i64 t439)) (fun _ h_ => h_.1))) hb); have n5_ := Aside0.mk (Kd.R_below (by (with_reducible repeat (first | apply Kd.R_alloc | apply Kd.R_drewN | apply Kd.R_drew)); exact (Kd.R_mono (Kd.R_far (p := ⟨gb441, 1, none⟩) (Kd.R_far (p := ⟨gb441, 0, none⟩) (Kd.R_types HO437.out BK441.out (by decide)) (fun _ hk => hk.2) (.int .i64 t438)) (fun _ hk => hk.2) (.int .i64 t439)) (fun _ h_ => h_.1))) hb); have n6_ := Aside0.mk (blk_below (g := gb428) (o := .cells #[.int .i64 t425, .int .i64 t426] 37 (0, 0)) (by (with_reducible repeat (first | refine blk_drewN ?_ _ | refine blk_drew ?_ | refine blk_alloc ?_ _)); refine blk_far ?_ NB428_441.out _; (with_reducible repeat (first | refine blk_drewN ?_ _ | refine blk_drew ?_ | refine blk_alloc ?_ _)); refine blk_far ?_ NB428_441.out _; exact bs BK428.out) hb); have n7_ := Aside0.mk (blk_below (g := gb441) (o := .cells #[.int .i64 t438, .int .i64 t439] 37 (0, 0)) (by (with_reducible repeat (first | refine blk_drewN ?_ _ | refine blk_drew ?_ | refine blk_alloc ?_ _)); refine blk_put (cs := #[.int .i64 t438, .int .i64 0]) ?_ 1 _ rfl; (with_reducible repeat (first | refine blk_drewN ?_ _ | refine blk_drew ?_ | refine blk_alloc ?_ _)); refine blk_put (cs := #[.int .i64 0, .int .i64 0]) ?_ 0 _ rfl; exact bs BK441.out) hb); have n8_ := Aside0.mk (below_step (by repeat (first | (with_reducible first | exact bw HB.out | refine bset ?_ | apply bA | apply bN | apply bD) | exact HB.out)) hb); replace HO418 := n0_; replace HO421 := n1_; replace HO424 := n2_; replace HO431 := n3_; replace HO434 := n4_; replace HO437 := n5_; replace BK428 := n6_; replace BK441 := n7_; replace HB := n8_; clear n0_ n1_ n2_ n3_ n4_ n5_ n6_ n7_ n8_; (try clear hb); (try clear hb2); (try clear hk); (try clear hi)))
  go_meet
  case rel => exact ⟨_, (true), (by first | rfl | (simp; done) | (simp [*]; done)), H', ⟨by first | omega | exact Nat.le_refl _⟩, ⟨by (with_reducible repeat (first | apply Kd.R_alloc | apply Kd.R_drewN | apply Kd.R_drew)); exact Kd.R_mono HO431.out (fun _ hk => trivial)⟩, ⟨by (with_reducible repeat (first | apply Kd.R_alloc | apply Kd.R_drewN | apply Kd.R_drew)); exact Kd.R_mono HO434.out (fun _ hk => ⟨hk.1.2, hk.2⟩)⟩, ⟨by (with_reducible repeat (first | apply Kd.R_alloc | apply Kd.R_drewN | apply Kd.R_drew)); exact Kd.R_mono HO437.out (fun _ hk => trivial)⟩, ⟨bs BK428.out⟩, ⟨bs BK441.out⟩, ⟨by repeat (first | (with_reducible first | exact bw HB.out | refine bset ?_ | apply bA | apply bN | apply bD) | exact HB.out)⟩⟩
 case rest =>
  clear HC18
  try clear c1
  try clear c2
  try clear p2
  try clear c3
  try clear c4
  try clear c5
  try clear c5b0
  try clear c5b1
  try clear c6
  try clear c7
  try clear c7b0
  try clear c8
  try clear c9
  try clear c9b0
  try clear c10
  try clear c15
  try clear c16
  try clear c17
  try clear c36
  try clear c39
  try clear c40
  try clear c44
  try clear hcz27_0
  try clear hcz27_1
  try clear hcz37_0
  try clear hcz37_1
  try clear hcz41_0
  try clear hcz41_1
  try clear hcz42_0
  try clear hcz42_1
  try clear hcz45_0
  try clear hcz45_1
  try clear hcz46_0
  try clear hcz46_1
  try clear hfz27_0
  try clear hfz27_1
  try clear hfz37_0
  try clear hfz37_1
  try clear hfz41_0
  try clear hfz41_1
  try clear hfz42_0
  try clear hfz42_1
  try clear hfz45_0
  try clear hfz45_1
  try clear hfz46_0
  try clear hfz46_1
  obtain ⟨kq, x63_17, rfl, HA, HJ17, HO_12, HO_13, HO_14, BK428, BK441, HB⟩ := hcut
  cases kq with
  | zero => exact absurd HA.out (by simp [laws_FnExactLongerWithout.j0])
  | succ kj17 =>
   have H := HA.out
   clear HA
   simp only [laws_FnExactLongerWithout.j0] at H
   by_cases c48 : x63_17 = true
   ·subst c48
    have H1 : (some false) = some r := by rw [if_pos rfl] at H; exact H
    clear H
    have H := H1
    clear H1
    obtain rfl := Option.some.inj H
    go_wp2
    go_ret
    exact ⟨by first | rfl | (simp [errW_none, errW_some] <;> rfl) | (simp [*, errW_none, errW_some] <;> rfl), by repeat (first | (with_reducible first | exact bw HB.out | refine bset ?_ | apply bA | apply bN | apply bD) | exact HB.out)⟩
   replace c48 := Bool.eq_false_iff.mpr c48
   subst c48
   have H1 : ((laws_toJobS.f kj17 l0).bind fun t443 => ((laws_eqJobS.f kj17 t429 t443).bind fun t446 => (if t446 = true then ((laws_toIntA2S.f kj17 l2).bind fun t447 => ((laws_eqIntA2S.f kj17 t432 t447).bind fun t450 => (if t450 = true then ((laws_toIntS.f kj17 l3).bind fun t451 => ((laws_eqIntS.f kj17 t435 t451).bind fun t454 => (if t454 = true then (some true) else (some false)))) else (some false)))) else (some false)))) = some r := by rw [if_neg (show ¬ (false = true) by decide)] at H; exact H
   clear H
   have H := H1
   clear H1
   replace H := Option.bind_eq_some_iff.mp H
   obtain ⟨t443, A490, H⟩ := H
   replace H : ((laws_eqJobS.f kj17 t429 t443).bind fun t446 => (if t446 = true then ((laws_toIntA2S.f kj17 l2).bind fun t447 => ((laws_eqIntA2S.f kj17 t432 t447).bind fun t450 => (if t450 = true then ((laws_toIntS.f kj17 l3).bind fun t451 => ((laws_eqIntS.f kj17 t435 t451).bind fun t454 => (if t454 = true then (some true) else (some false)))) else (some false)))) else (some false))) = some r := H
   have A49 := Aside0.mk A490
   clear A490
   replace H := Option.bind_eq_some_iff.mp H
   obtain ⟨t446, A500, H⟩ := H
   replace H : (if t446 = true then ((laws_toIntA2S.f kj17 l2).bind fun t447 => ((laws_eqIntA2S.f kj17 t432 t447).bind fun t450 => (if t450 = true then ((laws_toIntS.f kj17 l3).bind fun t451 => ((laws_eqIntS.f kj17 t435 t451).bind fun t454 => (if t454 = true then (some true) else (some false)))) else (some false)))) else (some false)) = some r := H
   have A50 := Aside0.mk A500
   clear A500
   by_cases c51 : t446 = true
   rotate_left
   ·replace c51 := Bool.eq_false_iff.mpr c51
    subst c51
    have H1 : (some false) = some r := by rw [if_neg (show ¬ (false = true) by decide)] at H; exact H
    clear H
    have H := H1
    clear H1
    obtain rfl := Option.some.inj H
    go_wp2_with (first | ((with_reducible refine gate_callee (f := 8) rfl ?_); refine goesL_ (some 66) rfl rfl Try.func8 (by kernel_rfl) rfl #[.slice A0 l0.length c0] rfl (by (try simp only [mA_]); first | done | rfl | (simp only [List.length_drop, List.length_take]; rfl)) ?_; (with_reducible refine (laws_toJobS.calls kj17 _ _ l0 t443 _ ?side1 ?side2 A49.out).mono ?_); (case side1 => first | exact bC HR0.out HB.out | exact Kd.C_below HR0.out HB.out); (case side2 => exact HC0.out); rintro e w80 ⟨v444, rfl, ho0, hb⟩; refine ⟨_, rfl, ?_⟩; have n0_ := Aside0.mk (Kd.R_elder' (bR HO_12.out) (Kd.R_base ho0) hb); have n1_ := Aside0.mk (Kd.R_below (bR HO_13.out) hb); have n2_ := Aside0.mk (Kd.R_below (bR HO_14.out) hb); have n3_ := Aside0.mk (Kd.R_lower (Kd.R_new' ho0 (Kd.R_lt (bR HO_12.out))) (below_size (by repeat (first | (with_reducible first | exact bw HB.out | refine bset ?_ | apply bA | apply bN | apply bD) | exact HB.out)))); have n4_ := Aside0.mk (blk_below (bs BK428.out) hb); have n5_ := Aside0.mk (blk_below (bs BK441.out) hb); have n6_ := Aside0.mk (below_step (by repeat (first | (with_reducible first | exact bw HB.out | refine bset ?_ | apply bA | apply bN | apply bD) | exact HB.out)) hb); replace HO_12 := n0_; replace HO_13 := n1_; replace HO_14 := n2_; have HO445 := n3_; replace BK428 := n4_; replace BK441 := n5_; replace HB := n6_; clear n0_ n1_ n2_ n3_ n4_ n5_ n6_; (try clear hb); (try clear hb2); (try clear hk); (try clear hi); (try clear ho0); obtain ⟨Ao81, co81, eo81⟩ := Kd.R_slice HO445.out; subst eo81) | ((with_reducible refine gate_callee (f := 12) rfl ?_); refine goesL_ (some 67) rfl rfl Try.func12 (by kernel_rfl) rfl #[.slice Ao31 t429.length co31, .slice Ao81 t443.length co81] rfl (by (try simp only [mA_]); first | done | rfl | (simp only [List.length_drop, List.length_take]; rfl)) ?_; (with_reducible refine (laws_eqJobS.calls kj17 _ _ t429 _ _ t443 false _ ?side1 ?side2 ?side3 ?side4 A50.out).mono ?_); (case side1 => repeat (first | exact (Kd.R_reads' HO_12.out).2.2 | (with_reducible refine Kd.C_alloc ?_ _) | (with_reducible refine Kd.C_drewN ?_ _) | (with_reducible refine Kd.C_drew ?_))); (case side2 => exact (Kd.R_reads' HO_12.out).2.1); (case side3 => repeat (first | exact (Kd.R_reads' HO445.out).2.2 | (with_reducible refine Kd.C_alloc ?_ _) | (with_reducible refine Kd.C_drewN ?_ _) | (with_reducible refine Kd.C_drew ?_))); (case side4 => exact (Kd.R_reads' HO445.out).2.1); rintro e w82 ⟨rfl, hb⟩; refine ⟨_, rfl, ?_⟩; have n0_ := Aside0.mk (Kd.R_below (bR HO_12.out) hb); have n1_ := Aside0.mk (Kd.R_below (bR HO_13.out) hb); have n2_ := Aside0.mk (Kd.R_below (bR HO_14.out) hb); have n3_ := Aside0.mk (Kd.R_below (bR HO445.out) hb); have n4_ := Aside0.mk (blk_below (bs BK428.out) hb); have n5_ := Aside0.mk (blk_below (bs BK441.out) hb); have n6_ := Aside0.mk (below_step (by repeat (first | (with_reducible first | exact bw HB.out | refine bset ?_ | apply bA | apply bN | apply bD) | exact HB.out)) hb); replace HO_12 := n0_; replace HO_13 := n1_; replace HO_14 := n2_; replace HO445 := n3_; replace BK428 := n4_; replace BK441 := n5_; replace HB := n6_; clear n0_ n1_ n2_ n3_ n4_ n5_ n6_; (try clear hb); (try clear hb2); (try clear hk); (try clear hi)))
    go_ret
    exact ⟨by first | rfl | (simp [errW_none, errW_some] <;> rfl) | (simp [*, errW_none, errW_some] <;> rfl), by repeat (first | (with_reducible first | exact bw HB.out | refine bset ?_ | apply bA | apply bN | apply bD) | exact HB.out)⟩
   subst c51
   have H1 : ((laws_toIntA2S.f kj17 l2).bind fun t447 => ((laws_eqIntA2S.f kj17 t432 t447).bind fun t450 => (if t450 = true then ((laws_toIntS.f kj17 l3).bind fun t451 => ((laws_eqIntS.f kj17 t435 t451).bind fun t454 => (if t454 = true then (some true) else (some false)))) else (some false)))) = some r := by rw [if_pos rfl] at H; exact H
   clear H
   have H := H1
   clear H1
   replace H := Option.bind_eq_some_iff.mp H
   obtain ⟨t447, A520, H⟩ := H
   replace H : ((laws_eqIntA2S.f kj17 t432 t447).bind fun t450 => (if t450 = true then ((laws_toIntS.f kj17 l3).bind fun t451 => ((laws_eqIntS.f kj17 t435 t451).bind fun t454 => (if t454 = true then (some true) else (some false)))) else (some false))) = some r := H
   have A52 := Aside0.mk A520
   clear A520
   replace H := Option.bind_eq_some_iff.mp H
   obtain ⟨t450, A530, H⟩ := H
   replace H : (if t450 = true then ((laws_toIntS.f kj17 l3).bind fun t451 => ((laws_eqIntS.f kj17 t435 t451).bind fun t454 => (if t454 = true then (some true) else (some false)))) else (some false)) = some r := H
   have A53 := Aside0.mk A530
   clear A530
   by_cases c54 : t450 = true
   rotate_left
   ·replace c54 := Bool.eq_false_iff.mpr c54
    subst c54
    have H1 : (some false) = some r := by rw [if_neg (show ¬ (false = true) by decide)] at H; exact H
    clear H
    have H := H1
    clear H1
    obtain rfl := Option.some.inj H
    go_wp2_with (first | ((with_reducible refine gate_callee (f := 8) rfl ?_); refine goesL_ (some 66) rfl rfl Try.func8 (by kernel_rfl) rfl #[.slice A0 l0.length c0] rfl (by (try simp only [mA_]); first | done | rfl | (simp only [List.length_drop, List.length_take]; rfl)) ?_; (with_reducible refine (laws_toJobS.calls kj17 _ _ l0 t443 _ ?side1 ?side2 A49.out).mono ?_); (case side1 => first | exact bC HR0.out HB.out | exact Kd.C_below HR0.out HB.out); (case side2 => exact HC0.out); rintro e w74 ⟨v444, rfl, ho0, hb⟩; refine ⟨_, rfl, ?_⟩; have n0_ := Aside0.mk (Kd.R_elder' (bR HO_12.out) (Kd.R_base ho0) hb); have n1_ := Aside0.mk (Kd.R_below (bR HO_13.out) hb); have n2_ := Aside0.mk (Kd.R_below (bR HO_14.out) hb); have n3_ := Aside0.mk (Kd.R_lower (Kd.R_new' ho0 (Kd.R_lt (bR HO_12.out))) (below_size (by repeat (first | (with_reducible first | exact bw HB.out | refine bset ?_ | apply bA | apply bN | apply bD) | exact HB.out)))); have n4_ := Aside0.mk (blk_below (bs BK428.out) hb); have n5_ := Aside0.mk (blk_below (bs BK441.out) hb); have n6_ := Aside0.mk (below_step (by repeat (first | (with_reducible first | exact bw HB.out | refine bset ?_ | apply bA | apply bN | apply bD) | exact HB.out)) hb); replace HO_12 := n0_; replace HO_13 := n1_; replace HO_14 := n2_; have HO445 := n3_; replace BK428 := n4_; replace BK441 := n5_; replace HB := n6_; clear n0_ n1_ n2_ n3_ n4_ n5_ n6_; (try clear hb); (try clear hb2); (try clear hk); (try clear hi); (try clear ho0); obtain ⟨Ao75, co75, eo75⟩ := Kd.R_slice HO445.out; subst eo75) | ((with_reducible refine gate_callee (f := 12) rfl ?_); refine goesL_ (some 67) rfl rfl Try.func12 (by kernel_rfl) rfl #[.slice Ao31 t429.length co31, .slice Ao75 t443.length co75] rfl (by (try simp only [mA_]); first | done | rfl | (simp only [List.length_drop, List.length_take]; rfl)) ?_; (with_reducible refine (laws_eqJobS.calls kj17 _ _ t429 _ _ t443 true _ ?side1 ?side2 ?side3 ?side4 A50.out).mono ?_); (case side1 => repeat (first | exact (Kd.R_reads' HO_12.out).2.2 | (with_reducible refine Kd.C_alloc ?_ _) | (with_reducible refine Kd.C_drewN ?_ _) | (with_reducible refine Kd.C_drew ?_))); (case side2 => exact (Kd.R_reads' HO_12.out).2.1); (case side3 => repeat (first | exact (Kd.R_reads' HO445.out).2.2 | (with_reducible refine Kd.C_alloc ?_ _) | (with_reducible refine Kd.C_drewN ?_ _) | (with_reducible refine Kd.C_drew ?_))); (case side4 => exact (Kd.R_reads' HO445.out).2.1); rintro e w76 ⟨rfl, hb⟩; refine ⟨_, rfl, ?_⟩; have n0_ := Aside0.mk (Kd.R_below (bR HO_12.out) hb); have n1_ := Aside0.mk (Kd.R_below (bR HO_13.out) hb); have n2_ := Aside0.mk (Kd.R_below (bR HO_14.out) hb); have n3_ := Aside0.mk (Kd.R_below (bR HO445.out) hb); have n4_ := Aside0.mk (blk_below (bs BK428.out) hb); have n5_ := Aside0.mk (blk_below (bs BK441.out) hb); have n6_ := Aside0.mk (below_step (by repeat (first | (with_reducible first | exact bw HB.out | refine bset ?_ | apply bA | apply bN | apply bD) | exact HB.out)) hb); replace HO_12 := n0_; replace HO_13 := n1_; replace HO_14 := n2_; replace HO445 := n3_; replace BK428 := n4_; replace BK441 := n5_; replace HB := n6_; clear n0_ n1_ n2_ n3_ n4_ n5_ n6_; (try clear hb); (try clear hb2); (try clear hk); (try clear hi)) | ((with_reducible refine gate_callee (f := 9) rfl ?_); refine goesL_ (some 71) rfl rfl Try.func9 (by kernel_rfl) rfl #[.slice A2 l2.length c2] rfl (by (try simp only [mA_]); first | done | rfl | (simp only [List.length_drop, List.length_take]; rfl)) ?_; (with_reducible refine (laws_toIntA2S.calls kj17 _ _ l2 t447 _ ?side1 ?side2 A52.out).mono ?_); (case side1 => first | exact bC HR2.out HB.out | exact Kd.C_below HR2.out HB.out); (case side2 => exact HC2.out); rintro e w77 ⟨v448, rfl, ho0, hb⟩; refine ⟨_, rfl, ?_⟩; have n0_ := Aside0.mk (Kd.R_below (bR HO_12.out) hb); have n1_ := Aside0.mk (Kd.R_elder' (bR HO_13.out) (Kd.R_base ho0) hb); have n2_ := Aside0.mk (Kd.R_below (bR HO_14.out) hb); have n3_ := Aside0.mk (Kd.R_below (bR HO445.out) hb); have n4_ := Aside0.mk (Kd.R_lower (Kd.R_newB (Kd.R_newB (Kd.R_new' ho0 (Kd.R_lt (bR HO_13.out))) (bs BK428.out)) (bs BK441.out)) (below_size (by repeat (first | (with_reducible first | exact bw HB.out | refine bset ?_ | apply bA | apply bN | apply bD) | exact HB.out)))); have n5_ := Aside0.mk (blk_below (bs BK428.out) hb); have n6_ := Aside0.mk (blk_below (bs BK441.out) hb); have n7_ := Aside0.mk (below_step (by repeat (first | (with_reducible first | exact bw HB.out | refine bset ?_ | apply bA | apply bN | apply bD) | exact HB.out)) hb); replace HO_12 := n0_; replace HO_13 := n1_; replace HO_14 := n2_; replace HO445 := n3_; have HO449 := n4_; replace BK428 := n5_; replace BK441 := n6_; replace HB := n7_; clear n0_ n1_ n2_ n3_ n4_ n5_ n6_ n7_; (try clear hb); (try clear hb2); (try clear hk); (try clear hi); (try clear ho0); obtain ⟨Ao78, co78, eo78⟩ := Kd.R_slice HO449.out; subst eo78) | ((with_reducible refine gate_callee (f := 13) rfl ?_); refine goesL_ (some 72) rfl rfl Try.func13 (by kernel_rfl) rfl #[.slice Ao32 t432.length co32, .slice Ao78 t447.length co78] rfl (by (try simp only [mA_]); first | done | rfl | (simp only [List.length_drop, List.length_take]; rfl)) ?_; (with_reducible refine (laws_eqIntA2S.calls kj17 _ _ t432 _ _ t447 false _ ?side1 ?side2 ?side3 ?side4 A53.out).mono ?_); (case side1 => repeat (first | exact (Kd.R_reads' HO_13.out).2.2 | (with_reducible refine Kd.C_alloc ?_ _) | (with_reducible refine Kd.C_drewN ?_ _) | (with_reducible refine Kd.C_drew ?_))); (case side2 => exact (Kd.R_reads' HO_13.out).2.1); (case side3 => repeat (first | exact (Kd.R_reads' HO449.out).2.2 | (with_reducible refine Kd.C_alloc ?_ _) | (with_reducible refine Kd.C_drewN ?_ _) | (with_reducible refine Kd.C_drew ?_))); (case side4 => exact (Kd.R_reads' HO449.out).2.1); rintro e w79 ⟨rfl, hb⟩; refine ⟨_, rfl, ?_⟩; have n0_ := Aside0.mk (Kd.R_below (bR HO_12.out) hb); have n1_ := Aside0.mk (Kd.R_below (bR HO_13.out) hb); have n2_ := Aside0.mk (Kd.R_below (bR HO_14.out) hb); have n3_ := Aside0.mk (Kd.R_below (bR HO445.out) hb); have n4_ := Aside0.mk (Kd.R_below (bR HO449.out) hb); have n5_ := Aside0.mk (blk_below (bs BK428.out) hb); have n6_ := Aside0.mk (blk_below (bs BK441.out) hb); have n7_ := Aside0.mk (below_step (by repeat (first | (with_reducible first | exact bw HB.out | refine bset ?_ | apply bA | apply bN | apply bD) | exact HB.out)) hb); replace HO_12 := n0_; replace HO_13 := n1_; replace HO_14 := n2_; replace HO445 := n3_; replace HO449 := n4_; replace BK428 := n5_; replace BK441 := n6_; replace HB := n7_; clear n0_ n1_ n2_ n3_ n4_ n5_ n6_ n7_; (try clear hb); (try clear hb2); (try clear hk); (try clear hi)))
    go_ret
    exact ⟨by first | rfl | (simp [errW_none, errW_some] <;> rfl) | (simp [*, errW_none, errW_some] <;> rfl), by repeat (first | (with_reducible first | exact bw HB.out | refine bset ?_ | apply bA | apply bN | apply bD) | exact HB.out)⟩
   subst c54
   have H1 : ((laws_toIntS.f kj17 l3).bind fun t451 => ((laws_eqIntS.f kj17 t435 t451).bind fun t454 => (if t454 = true then (some true) else (some false)))) = some r := by rw [if_pos rfl] at H; exact H
   clear H
   have H := H1
   clear H1
   replace H := Option.bind_eq_some_iff.mp H
   obtain ⟨t451, A550, H⟩ := H
   replace H : ((laws_eqIntS.f kj17 t435 t451).bind fun t454 => (if t454 = true then (some true) else (some false))) = some r := H
   have A55 := Aside0.mk A550
   clear A550
   replace H := Option.bind_eq_some_iff.mp H
   obtain ⟨t454, A560, H⟩ := H
   replace H : (if t454 = true then (some true) else (some false)) = some r := H
   have A56 := Aside0.mk A560
   clear A560
   by_cases c57 : t454 = true
   ·subst c57
    have H1 : (some true) = some r := by rw [if_pos rfl] at H; exact H
    clear H
    have H := H1
    clear H1
    obtain rfl := Option.some.inj H
    go_wp2_with (first | ((with_reducible refine gate_callee (f := 8) rfl ?_); refine goesL_ (some 66) rfl rfl Try.func8 (by kernel_rfl) rfl #[.slice A0 l0.length c0] rfl (by (try simp only [mA_]); first | done | rfl | (simp only [List.length_drop, List.length_take]; rfl)) ?_; (with_reducible refine (laws_toJobS.calls kj17 _ _ l0 t443 _ ?side1 ?side2 A49.out).mono ?_); (case side1 => first | exact bC HR0.out HB.out | exact Kd.C_below HR0.out HB.out); (case side2 => exact HC0.out); rintro e w58 ⟨v444, rfl, ho0, hb⟩; refine ⟨_, rfl, ?_⟩; have n0_ := Aside0.mk (Kd.R_elder' (bR HO_12.out) (Kd.R_base ho0) hb); have n1_ := Aside0.mk (Kd.R_below (bR HO_13.out) hb); have n2_ := Aside0.mk (Kd.R_below (bR HO_14.out) hb); have n3_ := Aside0.mk (Kd.R_lower (Kd.R_new' ho0 (Kd.R_lt (bR HO_12.out))) (below_size (by repeat (first | (with_reducible first | exact bw HB.out | refine bset ?_ | apply bA | apply bN | apply bD) | exact HB.out)))); have n4_ := Aside0.mk (blk_below (bs BK428.out) hb); have n5_ := Aside0.mk (blk_below (bs BK441.out) hb); have n6_ := Aside0.mk (below_step (by repeat (first | (with_reducible first | exact bw HB.out | refine bset ?_ | apply bA | apply bN | apply bD) | exact HB.out)) hb); replace HO_12 := n0_; replace HO_13 := n1_; replace HO_14 := n2_; have HO445 := n3_; replace BK428 := n4_; replace BK441 := n5_; replace HB := n6_; clear n0_ n1_ n2_ n3_ n4_ n5_ n6_; (try clear hb); (try clear hb2); (try clear hk); (try clear hi); (try clear ho0); obtain ⟨Ao59, co59, eo59⟩ := Kd.R_slice HO445.out; subst eo59) | ((with_reducible refine gate_callee (f := 12) rfl ?_); refine goesL_ (some 67) rfl rfl Try.func12 (by kernel_rfl) rfl #[.slice Ao31 t429.length co31, .slice Ao59 t443.length co59] rfl (by (try simp only [mA_]); first | done | rfl | (simp only [List.length_drop, List.length_take]; rfl)) ?_; (with_reducible refine (laws_eqJobS.calls kj17 _ _ t429 _ _ t443 true _ ?side1 ?side2 ?side3 ?side4 A50.out).mono ?_); (case side1 => repeat (first | exact (Kd.R_reads' HO_12.out).2.2 | (with_reducible refine Kd.C_alloc ?_ _) | (with_reducible refine Kd.C_drewN ?_ _) | (with_reducible refine Kd.C_drew ?_))); (case side2 => exact (Kd.R_reads' HO_12.out).2.1); (case side3 => repeat (first | exact (Kd.R_reads' HO445.out).2.2 | (with_reducible refine Kd.C_alloc ?_ _) | (with_reducible refine Kd.C_drewN ?_ _) | (with_reducible refine Kd.C_drew ?_))); (case side4 => exact (Kd.R_reads' HO445.out).2.1); rintro e w60 ⟨rfl, hb⟩; refine ⟨_, rfl, ?_⟩; have n0_ := Aside0.mk (Kd.R_below (bR HO_12.out) hb); have n1_ := Aside0.mk (Kd.R_below (bR HO_13.out) hb); have n2_ := Aside0.mk (Kd.R_below (bR HO_14.out) hb); have n3_ := Aside0.mk (Kd.R_below (bR HO445.out) hb); have n4_ := Aside0.mk (blk_below (bs BK428.out) hb); have n5_ := Aside0.mk (blk_below (bs BK441.out) hb); have n6_ := Aside0.mk (below_step (by repeat (first | (with_reducible first | exact bw HB.out | refine bset ?_ | apply bA | apply bN | apply bD) | exact HB.out)) hb); replace HO_12 := n0_; replace HO_13 := n1_; replace HO_14 := n2_; replace HO445 := n3_; replace BK428 := n4_; replace BK441 := n5_; replace HB := n6_; clear n0_ n1_ n2_ n3_ n4_ n5_ n6_; (try clear hb); (try clear hb2); (try clear hk); (try clear hi)) | ((with_reducible refine gate_callee (f := 9) rfl ?_); refine goesL_ (some 71) rfl rfl Try.func9 (by kernel_rfl) rfl #[.slice A2 l2.length c2] rfl (by (try simp only [mA_]); first | done | rfl | (simp only [List.length_drop, List.length_take]; rfl)) ?_; (with_reducible refine (laws_toIntA2S.calls kj17 _ _ l2 t447 _ ?side1 ?side2 A52.out).mono ?_); (case side1 => first | exact bC HR2.out HB.out | exact Kd.C_below HR2.out HB.out); (case side2 => exact HC2.out); rintro e w61 ⟨v448, rfl, ho0, hb⟩; refine ⟨_, rfl, ?_⟩; have n0_ := Aside0.mk (Kd.R_below (bR HO_12.out) hb); have n1_ := Aside0.mk (Kd.R_elder' (bR HO_13.out) (Kd.R_base ho0) hb); have n2_ := Aside0.mk (Kd.R_below (bR HO_14.out) hb); have n3_ := Aside0.mk (Kd.R_below (bR HO445.out) hb); have n4_ := Aside0.mk (Kd.R_lower (Kd.R_newB (Kd.R_newB (Kd.R_new' ho0 (Kd.R_lt (bR HO_13.out))) (bs BK428.out)) (bs BK441.out)) (below_size (by repeat (first | (with_reducible first | exact bw HB.out | refine bset ?_ | apply bA | apply bN | apply bD) | exact HB.out)))); have n5_ := Aside0.mk (blk_below (bs BK428.out) hb); have n6_ := Aside0.mk (blk_below (bs BK441.out) hb); have n7_ := Aside0.mk (below_step (by repeat (first | (with_reducible first | exact bw HB.out | refine bset ?_ | apply bA | apply bN | apply bD) | exact HB.out)) hb); replace HO_12 := n0_; replace HO_13 := n1_; replace HO_14 := n2_; replace HO445 := n3_; have HO449 := n4_; replace BK428 := n5_; replace BK441 := n6_; replace HB := n7_; clear n0_ n1_ n2_ n3_ n4_ n5_ n6_ n7_; (try clear hb); (try clear hb2); (try clear hk); (try clear hi); (try clear ho0); obtain ⟨Ao62, co62, eo62⟩ := Kd.R_slice HO449.out; subst eo62) | ((with_reducible refine gate_callee (f := 13) rfl ?_); refine goesL_ (some 72) rfl rfl Try.func13 (by kernel_rfl) rfl #[.slice Ao32 t432.length co32, .slice Ao62 t447.length co62] rfl (by (try simp only [mA_]); first | done | rfl | (simp only [List.length_drop, List.length_take]; rfl)) ?_; (with_reducible refine (laws_eqIntA2S.calls kj17 _ _ t432 _ _ t447 true _ ?side1 ?side2 ?side3 ?side4 A53.out).mono ?_); (case side1 => repeat (first | exact (Kd.R_reads' HO_13.out).2.2 | (with_reducible refine Kd.C_alloc ?_ _) | (with_reducible refine Kd.C_drewN ?_ _) | (with_reducible refine Kd.C_drew ?_))); (case side2 => exact (Kd.R_reads' HO_13.out).2.1); (case side3 => repeat (first | exact (Kd.R_reads' HO449.out).2.2 | (with_reducible refine Kd.C_alloc ?_ _) | (with_reducible refine Kd.C_drewN ?_ _) | (with_reducible refine Kd.C_drew ?_))); (case side4 => exact (Kd.R_reads' HO449.out).2.1); rintro e w63 ⟨rfl, hb⟩; refine ⟨_, rfl, ?_⟩; have n0_ := Aside0.mk (Kd.R_below (bR HO_12.out) hb); have n1_ := Aside0.mk (Kd.R_below (bR HO_13.out) hb); have n2_ := Aside0.mk (Kd.R_below (bR HO_14.out) hb); have n3_ := Aside0.mk (Kd.R_below (bR HO445.out) hb); have n4_ := Aside0.mk (Kd.R_below (bR HO449.out) hb); have n5_ := Aside0.mk (blk_below (bs BK428.out) hb); have n6_ := Aside0.mk (blk_below (bs BK441.out) hb); have n7_ := Aside0.mk (below_step (by repeat (first | (with_reducible first | exact bw HB.out | refine bset ?_ | apply bA | apply bN | apply bD) | exact HB.out)) hb); replace HO_12 := n0_; replace HO_13 := n1_; replace HO_14 := n2_; replace HO445 := n3_; replace HO449 := n4_; replace BK428 := n5_; replace BK441 := n6_; replace HB := n7_; clear n0_ n1_ n2_ n3_ n4_ n5_ n6_ n7_; (try clear hb); (try clear hb2); (try clear hk); (try clear hi)) | ((with_reducible refine gate_callee (f := 10) rfl ?_); refine goesL_ (some 76) rfl rfl Try.func10 (by kernel_rfl) rfl #[.slice A3 l3.length c3] rfl (by (try simp only [mA_]); first | done | rfl | (simp only [List.length_drop, List.length_take]; rfl)) ?_; (with_reducible refine (laws_toIntS.calls kj17 _ _ l3 t451 _ ?side1 ?side2 A55.out).mono ?_); (case side1 => first | exact bC HR3.out HB.out | exact Kd.C_below HR3.out HB.out); (case side2 => exact HC3.out); rintro e w64 ⟨v452, rfl, ho0, hb⟩; refine ⟨_, rfl, ?_⟩; have n0_ := Aside0.mk (Kd.R_below (bR HO_12.out) hb); have n1_ := Aside0.mk (Kd.R_below (bR HO_13.out) hb); have n2_ := Aside0.mk (Kd.R_elder' (bR HO_14.out) (Kd.R_base ho0) hb); have n3_ := Aside0.mk (Kd.R_below (bR HO445.out) hb); have n4_ := Aside0.mk (Kd.R_below (bR HO449.out) hb); have n5_ := Aside0.mk (Kd.R_lower (Kd.R_new' ho0 (Kd.R_lt (bR HO_14.out))) (below_size (by repeat (first | (with_reducible first | exact bw HB.out | refine bset ?_ | apply bA | apply bN | apply bD) | exact HB.out)))); have n6_ := Aside0.mk (blk_below (bs BK428.out) hb); have n7_ := Aside0.mk (blk_below (bs BK441.out) hb); have n8_ := Aside0.mk (below_step (by repeat (first | (with_reducible first | exact bw HB.out | refine bset ?_ | apply bA | apply bN | apply bD) | exact HB.out)) hb); replace HO_12 := n0_; replace HO_13 := n1_; replace HO_14 := n2_; replace HO445 := n3_; replace HO449 := n4_; have HO453 := n5_; replace BK428 := n6_; replace BK441 := n7_; replace HB := n8_; clear n0_ n1_ n2_ n3_ n4_ n5_ n6_ n7_ n8_; (try clear hb); (try clear hb2); (try clear hk); (try clear hi); (try clear ho0); obtain ⟨Ao65, co65, eo65⟩ := Kd.R_slice HO453.out; subst eo65) | ((with_reducible refine gate_callee (f := 14) rfl ?_); refine goesL_ (some 77) rfl rfl Try.func14 (by kernel_rfl) rfl #[.slice Ao33 t435.length co33, .slice Ao65 t451.length co65] rfl (by (try simp only [mA_]); first | done | rfl | (simp only [List.length_drop, List.length_take]; rfl)) ?_; (with_reducible refine (laws_eqIntS.calls kj17 _ _ t435 _ _ t451 true _ ?side1 ?side2 ?side3 ?side4 A56.out).mono ?_); (case side1 => repeat (first | exact (Kd.R_reads' HO_14.out).2.2 | (with_reducible refine Kd.C_alloc ?_ _) | (with_reducible refine Kd.C_drewN ?_ _) | (with_reducible refine Kd.C_drew ?_))); (case side2 => exact (Kd.R_reads' HO_14.out).2.1); (case side3 => repeat (first | exact (Kd.R_reads' HO453.out).2.2 | (with_reducible refine Kd.C_alloc ?_ _) | (with_reducible refine Kd.C_drewN ?_ _) | (with_reducible refine Kd.C_drew ?_))); (case side4 => exact (Kd.R_reads' HO453.out).2.1); rintro e w' ⟨rfl, ⟨nd, rfl⟩⟩; refine ⟨_, rfl, ?_⟩))
    go_ret
    exact ⟨by first | rfl | (simp [errW_none, errW_some] <;> rfl) | (simp [*, errW_none, errW_some] <;> rfl), by repeat (first | (with_reducible first | exact bw HB.out | refine bset ?_ | apply bA | apply bN | apply bD) | exact HB.out)⟩
   replace c57 := Bool.eq_false_iff.mpr c57
   subst c57
   have H1 : (some false) = some r := by rw [if_neg (show ¬ (false = true) by decide)] at H; exact H
   clear H
   have H := H1
   clear H1
   obtain rfl := Option.some.inj H
   go_wp2_with (first | ((with_reducible refine gate_callee (f := 8) rfl ?_); refine goesL_ (some 66) rfl rfl Try.func8 (by kernel_rfl) rfl #[.slice A0 l0.length c0] rfl (by (try simp only [mA_]); first | done | rfl | (simp only [List.length_drop, List.length_take]; rfl)) ?_; (with_reducible refine (laws_toJobS.calls kj17 _ _ l0 t443 _ ?side1 ?side2 A49.out).mono ?_); (case side1 => first | exact bC HR0.out HB.out | exact Kd.C_below HR0.out HB.out); (case side2 => exact HC0.out); rintro e w66 ⟨v444, rfl, ho0, hb⟩; refine ⟨_, rfl, ?_⟩; have n0_ := Aside0.mk (Kd.R_elder' (bR HO_12.out) (Kd.R_base ho0) hb); have n1_ := Aside0.mk (Kd.R_below (bR HO_13.out) hb); have n2_ := Aside0.mk (Kd.R_below (bR HO_14.out) hb); have n3_ := Aside0.mk (Kd.R_lower (Kd.R_new' ho0 (Kd.R_lt (bR HO_12.out))) (below_size (by repeat (first | (with_reducible first | exact bw HB.out | refine bset ?_ | apply bA | apply bN | apply bD) | exact HB.out)))); have n4_ := Aside0.mk (blk_below (bs BK428.out) hb); have n5_ := Aside0.mk (blk_below (bs BK441.out) hb); have n6_ := Aside0.mk (below_step (by repeat (first | (with_reducible first | exact bw HB.out | refine bset ?_ | apply bA | apply bN | apply bD) | exact HB.out)) hb); replace HO_12 := n0_; replace HO_13 := n1_; replace HO_14 := n2_; have HO445 := n3_; replace BK428 := n4_; replace BK441 := n5_; replace HB := n6_; clear n0_ n1_ n2_ n3_ n4_ n5_ n6_; (try clear hb); (try clear hb2); (try clear hk); (try clear hi); (try clear ho0); obtain ⟨Ao67, co67, eo67⟩ := Kd.R_slice HO445.out; subst eo67) | ((with_reducible refine gate_callee (f := 12) rfl ?_); refine goesL_ (some 67) rfl rfl Try.func12 (by kernel_rfl) rfl #[.slice Ao31 t429.length co31, .slice Ao67 t443.length co67] rfl (by (try simp only [mA_]); first | done | rfl | (simp only [List.length_drop, List.length_take]; rfl)) ?_; (with_reducible refine (laws_eqJobS.calls kj17 _ _ t429 _ _ t443 true _ ?side1 ?side2 ?side3 ?side4 A50.out).mono ?_); (case side1 => repeat (first | exact (Kd.R_reads' HO_12.out).2.2 | (with_reducible refine Kd.C_alloc ?_ _) | (with_reducible refine Kd.C_drewN ?_ _) | (with_reducible refine Kd.C_drew ?_))); (case side2 => exact (Kd.R_reads' HO_12.out).2.1); (case side3 => repeat (first | exact (Kd.R_reads' HO445.out).2.2 | (with_reducible refine Kd.C_alloc ?_ _) | (with_reducible refine Kd.C_drewN ?_ _) | (with_reducible refine Kd.C_drew ?_))); (case side4 => exact (Kd.R_reads' HO445.out).2.1); rintro e w68 ⟨rfl, hb⟩; refine ⟨_, rfl, ?_⟩; have n0_ := Aside0.mk (Kd.R_below (bR HO_12.out) hb); have n1_ := Aside0.mk (Kd.R_below (bR HO_13.out) hb); have n2_ := Aside0.mk (Kd.R_below (bR HO_14.out) hb); have n3_ := Aside0.mk (Kd.R_below (bR HO445.out) hb); have n4_ := Aside0.mk (blk_below (bs BK428.out) hb); have n5_ := Aside0.mk (blk_below (bs BK441.out) hb); have n6_ := Aside0.mk (below_step (by repeat (first | (with_reducible first | exact bw HB.out | refine bset ?_ | apply bA | apply bN | apply bD) | exact HB.out)) hb); replace HO_12 := n0_; replace HO_13 := n1_; replace HO_14 := n2_; replace HO445 := n3_; replace BK428 := n4_; replace BK441 := n5_; replace HB := n6_; clear n0_ n1_ n2_ n3_ n4_ n5_ n6_; (try clear hb); (try clear hb2); (try clear hk); (try clear hi)) | ((with_reducible refine gate_callee (f := 9) rfl ?_); refine goesL_ (some 71) rfl rfl Try.func9 (by kernel_rfl) rfl #[.slice A2 l2.length c2] rfl (by (try simp only [mA_]); first | done | rfl | (simp only [List.length_drop, List.length_take]; rfl)) ?_; (with_reducible refine (laws_toIntA2S.calls kj17 _ _ l2 t447 _ ?side1 ?side2 A52.out).mono ?_); (case side1 => first | exact bC HR2.out HB.out | exact Kd.C_below HR2.out HB.out); (case side2 => exact HC2.out); rintro e w69 ⟨v448, rfl, ho0, hb⟩; refine ⟨_, rfl, ?_⟩; have n0_ := Aside0.mk (Kd.R_below (bR HO_12.out) hb); have n1_ := Aside0.mk (Kd.R_elder' (bR HO_13.out) (Kd.R_base ho0) hb); have n2_ := Aside0.mk (Kd.R_below (bR HO_14.out) hb); have n3_ := Aside0.mk (Kd.R_below (bR HO445.out) hb); have n4_ := Aside0.mk (Kd.R_lower (Kd.R_newB (Kd.R_newB (Kd.R_new' ho0 (Kd.R_lt (bR HO_13.out))) (bs BK428.out)) (bs BK441.out)) (below_size (by repeat (first | (with_reducible first | exact bw HB.out | refine bset ?_ | apply bA | apply bN | apply bD) | exact HB.out)))); have n5_ := Aside0.mk (blk_below (bs BK428.out) hb); have n6_ := Aside0.mk (blk_below (bs BK441.out) hb); have n7_ := Aside0.mk (below_step (by repeat (first | (with_reducible first | exact bw HB.out | refine bset ?_ | apply bA | apply bN | apply bD) | exact HB.out)) hb); replace HO_12 := n0_; replace HO_13 := n1_; replace HO_14 := n2_; replace HO445 := n3_; have HO449 := n4_; replace BK428 := n5_; replace BK441 := n6_; replace HB := n7_; clear n0_ n1_ n2_ n3_ n4_ n5_ n6_ n7_; (try clear hb); (try clear hb2); (try clear hk); (try clear hi); (try clear ho0); obtain ⟨Ao70, co70, eo70⟩ := Kd.R_slice HO449.out; subst eo70) | ((with_reducible refine gate_callee (f := 13) rfl ?_); refine goesL_ (some 72) rfl rfl Try.func13 (by kernel_rfl) rfl #[.slice Ao32 t432.length co32, .slice Ao70 t447.length co70] rfl (by (try simp only [mA_]); first | done | rfl | (simp only [List.length_drop, List.length_take]; rfl)) ?_; (with_reducible refine (laws_eqIntA2S.calls kj17 _ _ t432 _ _ t447 true _ ?side1 ?side2 ?side3 ?side4 A53.out).mono ?_); (case side1 => repeat (first | exact (Kd.R_reads' HO_13.out).2.2 | (with_reducible refine Kd.C_alloc ?_ _) | (with_reducible refine Kd.C_drewN ?_ _) | (with_reducible refine Kd.C_drew ?_))); (case side2 => exact (Kd.R_reads' HO_13.out).2.1); (case side3 => repeat (first | exact (Kd.R_reads' HO449.out).2.2 | (with_reducible refine Kd.C_alloc ?_ _) | (with_reducible refine Kd.C_drewN ?_ _) | (with_reducible refine Kd.C_drew ?_))); (case side4 => exact (Kd.R_reads' HO449.out).2.1); rintro e w71 ⟨rfl, hb⟩; refine ⟨_, rfl, ?_⟩; have n0_ := Aside0.mk (Kd.R_below (bR HO_12.out) hb); have n1_ := Aside0.mk (Kd.R_below (bR HO_13.out) hb); have n2_ := Aside0.mk (Kd.R_below (bR HO_14.out) hb); have n3_ := Aside0.mk (Kd.R_below (bR HO445.out) hb); have n4_ := Aside0.mk (Kd.R_below (bR HO449.out) hb); have n5_ := Aside0.mk (blk_below (bs BK428.out) hb); have n6_ := Aside0.mk (blk_below (bs BK441.out) hb); have n7_ := Aside0.mk (below_step (by repeat (first | (with_reducible first | exact bw HB.out | refine bset ?_ | apply bA | apply bN | apply bD) | exact HB.out)) hb); replace HO_12 := n0_; replace HO_13 := n1_; replace HO_14 := n2_; replace HO445 := n3_; replace HO449 := n4_; replace BK428 := n5_; replace BK441 := n6_; replace HB := n7_; clear n0_ n1_ n2_ n3_ n4_ n5_ n6_ n7_; (try clear hb); (try clear hb2); (try clear hk); (try clear hi)) | ((with_reducible refine gate_callee (f := 10) rfl ?_); refine goesL_ (some 76) rfl rfl Try.func10 (by kernel_rfl) rfl #[.slice A3 l3.length c3] rfl (by (try simp only [mA_]); first | done | rfl | (simp only [List.length_drop, List.length_take]; rfl)) ?_; (with_reducible refine (laws_toIntS.calls kj17 _ _ l3 t451 _ ?side1 ?side2 A55.out).mono ?_); (case side1 => first | exact bC HR3.out HB.out | exact Kd.C_below HR3.out HB.out); (case side2 => exact HC3.out); rintro e w72 ⟨v452, rfl, ho0, hb⟩; refine ⟨_, rfl, ?_⟩; have n0_ := Aside0.mk (Kd.R_below (bR HO_12.out) hb); have n1_ := Aside0.mk (Kd.R_below (bR HO_13.out) hb); have n2_ := Aside0.mk (Kd.R_elder' (bR HO_14.out) (Kd.R_base ho0) hb); have n3_ := Aside0.mk (Kd.R_below (bR HO445.out) hb); have n4_ := Aside0.mk (Kd.R_below (bR HO449.out) hb); have n5_ := Aside0.mk (Kd.R_lower (Kd.R_new' ho0 (Kd.R_lt (bR HO_14.out))) (below_size (by repeat (first | (with_reducible first | exact bw HB.out | refine bset ?_ | apply bA | apply bN | apply bD) | exact HB.out)))); have n6_ := Aside0.mk (blk_below (bs BK428.out) hb); have n7_ := Aside0.mk (blk_below (bs BK441.out) hb); have n8_ := Aside0.mk (below_step (by repeat (first | (with_reducible first | exact bw HB.out | refine bset ?_ | apply bA | apply bN | apply bD) | exact HB.out)) hb); replace HO_12 := n0_; replace HO_13 := n1_; replace HO_14 := n2_; replace HO445 := n3_; replace HO449 := n4_; have HO453 := n5_; replace BK428 := n6_; replace BK441 := n7_; replace HB := n8_; clear n0_ n1_ n2_ n3_ n4_ n5_ n6_ n7_ n8_; (try clear hb); (try clear hb2); (try clear hk); (try clear hi); (try clear ho0); obtain ⟨Ao73, co73, eo73⟩ := Kd.R_slice HO453.out; subst eo73) | ((with_reducible refine gate_callee (f := 14) rfl ?_); refine goesL_ (some 77) rfl rfl Try.func14 (by kernel_rfl) rfl #[.slice Ao33 t435.length co33, .slice Ao73 t451.length co73] rfl (by (try simp only [mA_]); first | done | rfl | (simp only [List.length_drop, List.length_take]; rfl)) ?_; (with_reducible refine (laws_eqIntS.calls kj17 _ _ t435 _ _ t451 false _ ?side1 ?side2 ?side3 ?side4 A56.out).mono ?_); (case side1 => repeat (first | exact (Kd.R_reads' HO_14.out).2.2 | (with_reducible refine Kd.C_alloc ?_ _) | (with_reducible refine Kd.C_drewN ?_ _) | (with_reducible refine Kd.C_drew ?_))); (case side2 => exact (Kd.R_reads' HO_14.out).2.1); (case side3 => repeat (first | exact (Kd.R_reads' HO453.out).2.2 | (with_reducible refine Kd.C_alloc ?_ _) | (with_reducible refine Kd.C_drewN ?_ _) | (with_reducible refine Kd.C_drew ?_))); (case side4 => exact (Kd.R_reads' HO453.out).2.1); rintro e w' ⟨rfl, ⟨nd, rfl⟩⟩; refine ⟨_, rfl, ?_⟩))
   go_ret
   exact ⟨by first | rfl | (simp [errW_none, errW_some] <;> rfl) | (simp [*, errW_none, errW_some] <;> rfl), by repeat (first | (with_reducible first | exact bw HB.out | refine bset ?_ | apply bA | apply bN | apply bD) | exact HB.out)⟩

end Go.Proofs.Yteifefecoaefnaa.X
