-- Written by a program of this session (wip/gen/xp.py, over the kit's printer). Not trusted: Lean checks it.
import Derived.Test.YtoagdnojoodloaaX0
import Derived.Test.YtoagdnojoodloaaXf7
namespace Go.Proofs.Ytoagdnojoodloaa.X
open Go.RowKit Go.Proofs.YtoagdnojoodloaaW.PrintWords Go.Proofs.YtoagdnojoodloaaW.PrintLast Go.Proofs.YtoagdnojoodloaaW.PrintMore
attribute [local go_sem] max2_int min2_int max_two min_two max_three min_three max_four min_four   -- for this text's walks alone
set_option linter.unusedVariables false
set_option linter.unusedSimpArgs false

/-! ### laws_szTaskS: function 40 -/
def laws_szTaskS.f (l0 : List (S100)) (a1 : Int) : Option (Int) := if (wrap64 (a1 - (l0.length : Int))) < 0 then (some (-1)) else (some (wrap64 (a1 - (l0.length : Int))))
set_option maxHeartbeats 8000000 in
set_option maxRecDepth 100000 in
theorem laws_szTaskS.calls (A0 : Option Addr) (c0 : Nat) (l0 : List (S100)) (a1 : Int) (r : Int) (w : World) (hr0 : Kd.C k100 w A0 l0.length l0) (hc0 : l0.length ≤ c0) (h : laws_szTaskS.f l0 a1 = some r) :
  Calls Try.prog 40 #[.slice A0 l0.length c0, .int .i64 a1] w fun e w' => e = .returned (.int .i64 r) ∧ Drawn0 w w' := by
 have HR0 := Aside0.mk hr0
 have HC0 := Aside0.mk hc0
 clear hr0 hc0
 have H : (if (wrap64 (a1 - (l0.length : Int))) < 0 then (some (-1)) else (some (wrap64 (a1 - (l0.length : Int))))) = some r := h
 clear h
 by_cases c3 : (wrap64 (a1 - (l0.length : Int))) < 0
 ·rw [if_pos c3] at H
  have c3b0 : decide ((wrap64 (a1 - (l0.length : Int))) < 0) = true := decide_eq_true c3
  clear c3
  obtain rfl := Option.some.inj H
  go_enter Try.func40, Try.ntmps40
  go_wp2
  go_ret
  exact ⟨by first | rfl | (simp; done) | (simp [*]; done), by repeat (first | exact Drawn0.refl _ | apply Drawn0.step)⟩
 rw [if_neg c3] at H
 have c3b0 : decide ((wrap64 (a1 - (l0.length : Int))) < 0) = false := decide_eq_false c3
 clear c3
 obtain rfl := Option.some.inj H
 go_enter Try.func40, Try.ntmps40
 go_wp2
 go_ret
 exact ⟨by first | rfl | (simp; done) | (simp [*]; done), by repeat (first | exact Drawn0.refl _ | apply Drawn0.step)⟩

/-! ### laws_szDispatcher: function 16 -/
def laws_szDispatcher.f (a0_0 : Int) (a0_1 : Int) (a0_2 : Int) (l0_3 : List (S63)) (l0_4 : List (S100)) (a1 : Int) : Option (Int) := (laws_szJobS.f l0_3 a1).bind fun t453 => (if t453 < 0 then (some (-1)) else ((laws_szTaskS.f l0_4 t453).bind fun t454 => (if t454 < 0 then (some (-1)) else (some t454))))
set_option maxHeartbeats 8000000 in
set_option maxRecDepth 100000 in
theorem laws_szDispatcher.calls (a0_0 : Int) (a0_1 : Int) (a0_2 : Int) (A0_3 : Option Addr) (c0_3 : Nat) (l0_3 : List (S63)) (A0_4 : Option Addr) (c0_4 : Nat) (l0_4 : List (S100)) (a1 : Int) (r : Int) (w : World) (hr0_3 : Kd.C k63 w A0_3 l0_3.length l0_3) (hc0_3 : l0_3.length ≤ c0_3) (hr0_4 : Kd.C k100 w A0_4 l0_4.length l0_4) (hc0_4 : l0_4.length ≤ c0_4) (h : laws_szDispatcher.f a0_0 a0_1 a0_2 l0_3 l0_4 a1 = some r) :
  Calls Try.prog 16 #[.agg #[.int .i64 a0_0, .int .i64 a0_1, .int .i64 a0_2, .slice A0_3 l0_3.length c0_3, .slice A0_4 l0_4.length c0_4], .int .i64 a1] w fun e w' => e = .returned (.int .i64 r) ∧ Below w.heap.size w w' := by
 have hu38 := Try.underlying38
 have HR0_3 := Aside0.mk hr0_3
 have HC0_3 := Aside0.mk hc0_3
 clear hr0_3 hc0_3
 have HR0_4 := Aside0.mk hr0_4
 have HC0_4 := Aside0.mk hc0_4
 clear hr0_4 hc0_4
 have HB := Aside0.mk (Below.refl w.heap.size w)
 have H : ((laws_szJobS.f l0_3 a1).bind fun t453 => (if t453 < 0 then (some (-1)) else ((laws_szTaskS.f l0_4 t453).bind fun t454 => (if t454 < 0 then (some (-1)) else (some t454))))) = some r := h
 clear h
 replace H := Option.bind_eq_some_iff.mp H
 obtain ⟨t453, A30, H⟩ := H
 replace H : (if t453 < 0 then (some (-1)) else ((laws_szTaskS.f l0_4 t453).bind fun t454 => (if t454 < 0 then (some (-1)) else (some t454)))) = some r := H
 have A3 := Aside0.mk A30
 clear A30
 by_cases c4 : t453 < 0
 ·rw [if_pos c4] at H
  have c4b0 : decide (t453 < 0) = true := decide_eq_true c4
  clear c4
  obtain rfl := Option.some.inj H
  go_enter Try.func16, Try.ntmps16
  go_wp2_with (first | ((with_reducible refine gate_dst (N := 2) rfl ?_); refine box_event ?hg (N := 2) ?hd (cs := #[.int .i64 a0_0, .int .i64 a0_1, .int .i64 a0_2, .slice A0_3 l0_3.length c0_3, .slice A0_4 l0_4.length c0_4]) (t := 38) ?hr ?_; (case hd => rfl); (case hg => rfl); (case hr => first | (go_simp; done) | (go_simp; rfl)); intro gb452 hg w5 hbox hb; have n0_ := Aside0.mk (below_step (bw HB.out) hb); have n1_ := Aside0.mk (hbox); have n2_ := ge_ hg HB.out; have n3_ := ge_ hg HB.out; replace HB := n0_; have BK452 := n1_; have GW452 := n2_; have GE452 := n3_; clear n0_ n1_ n2_ n3_; clear hb hbox hg; obtain ⟨hcz6_0, hcz6_1, hcz6_2, hcz6_3, hcz6_4, hfz6_0, hfz6_1, hfz6_2, hfz6_3, hfz6_4⟩ := bz5 BK452.out) | ((with_reducible refine gate_callee (f := 7) rfl ?_); refine goesL_ (some 8) rfl rfl Try.func7 (by kernel_rfl) rfl #[.slice A0_3 l0_3.length c0_3, .int .i64 a1] rfl (by (try simp only [mA_]); first | done | rfl | (simp only [List.length_drop, List.length_take]; rfl)) ?_; (with_reducible refine (laws_szJobS.calls _ _ l0_3 a1 t453 _ ?side1 ?side2 A3.out).mono ?_); (case side1 => first | exact bC HR0_3.out HB.out | exact Kd.C_below HR0_3.out HB.out); (case side2 => exact HC0_3.out); rintro e w' ⟨rfl, ⟨nd, rfl⟩⟩; refine ⟨_, rfl, ?_⟩))
  go_ret
  exact ⟨by first | rfl | (simp [errW_none, errW_some] <;> rfl) | (simp [*, errW_none, errW_some] <;> rfl), by repeat (first | (with_reducible first | exact bw HB.out | refine bset ?_ | apply bA | apply bN | apply bD) | exact HB.out)⟩
 rw [if_neg c4] at H
 have c4b0 : decide (t453 < 0) = false := decide_eq_false c4
 clear c4
 replace H := Option.bind_eq_some_iff.mp H
 obtain ⟨t454, A70, H⟩ := H
 replace H : (if t454 < 0 then (some (-1)) else (some t454)) = some r := H
 have A7 := Aside0.mk A70
 clear A70
 by_cases c8 : t454 < 0
 ·rw [if_pos c8] at H
  have c8b0 : decide (t454 < 0) = true := decide_eq_true c8
  clear c8
  obtain rfl := Option.some.inj H
  go_enter Try.func16, Try.ntmps16
  go_wp2_with (first | ((with_reducible refine gate_dst (N := 2) rfl ?_); refine box_event ?hg (N := 2) ?hd (cs := #[.int .i64 a0_0, .int .i64 a0_1, .int .i64 a0_2, .slice A0_3 l0_3.length c0_3, .slice A0_4 l0_4.length c0_4]) (t := 38) ?hr ?_; (case hd => rfl); (case hg => rfl); (case hr => first | (go_simp; done) | (go_simp; rfl)); intro gb452 hg w9 hbox hb; have n0_ := Aside0.mk (below_step (bw HB.out) hb); have n1_ := Aside0.mk (hbox); have n2_ := ge_ hg HB.out; have n3_ := ge_ hg HB.out; replace HB := n0_; have BK452 := n1_; have GW452 := n2_; have GE452 := n3_; clear n0_ n1_ n2_ n3_; clear hb hbox hg; obtain ⟨hcz10_0, hcz10_1, hcz10_2, hcz10_3, hcz10_4, hfz10_0, hfz10_1, hfz10_2, hfz10_3, hfz10_4⟩ := bz5 BK452.out) | ((with_reducible refine gate_callee (f := 7) rfl ?_); refine goesL_ (some 8) rfl rfl Try.func7 (by kernel_rfl) rfl #[.slice A0_3 l0_3.length c0_3, .int .i64 a1] rfl (by (try simp only [mA_]); first | done | rfl | (simp only [List.length_drop, List.length_take]; rfl)) ?_; (with_reducible refine (laws_szJobS.calls _ _ l0_3 a1 t453 _ ?side1 ?side2 A3.out).mono ?_); (case side1 => first | exact bC HR0_3.out HB.out | exact Kd.C_below HR0_3.out HB.out); (case side2 => exact HC0_3.out); rintro e w' ⟨rfl, ⟨nd, rfl⟩⟩; refine ⟨_, rfl, ?_⟩) | ((with_reducible refine gate_callee (f := 40) rfl ?_); refine goesL_ (some 14) rfl rfl Try.func40 (by kernel_rfl) rfl #[.slice A0_4 l0_4.length c0_4, .int .i64 t453] rfl (by (try simp only [mA_]); first | done | rfl | (simp only [List.length_drop, List.length_take]; rfl)) ?_; (with_reducible refine (laws_szTaskS.calls _ _ l0_4 t453 t454 _ ?side1 ?side2 A7.out).mono ?_); (case side1 => repeat (first | exact (Kd.C_below HR0_4.out (by repeat (first | (with_reducible first | exact bw HB.out | refine bset ?_ | apply bA | apply bN | apply bD) | exact HB.out))) | (with_reducible refine Kd.C_alloc ?_ _) | (with_reducible refine Kd.C_drewN ?_ _) | (with_reducible refine Kd.C_drew ?_))); (case side2 => exact HC0_4.out); rintro e w' ⟨rfl, ⟨nd, rfl⟩⟩; refine ⟨_, rfl, ?_⟩))
  go_ret
  exact ⟨by first | rfl | (simp [errW_none, errW_some] <;> rfl) | (simp [*, errW_none, errW_some] <;> rfl), by repeat (first | (with_reducible first | exact bw HB.out | refine bset ?_ | apply bA | apply bN | apply bD) | exact HB.out)⟩
 rw [if_neg c8] at H
 have c8b0 : decide (t454 < 0) = false := decide_eq_false c8
 clear c8
 obtain rfl := Option.some.inj H
 go_enter Try.func16, Try.ntmps16
 go_wp2_with (first | ((with_reducible refine gate_dst (N := 2) rfl ?_); refine box_event ?hg (N := 2) ?hd (cs := #[.int .i64 a0_0, .int .i64 a0_1, .int .i64 a0_2, .slice A0_3 l0_3.length c0_3, .slice A0_4 l0_4.length c0_4]) (t := 38) ?hr ?_; (case hd => rfl); (case hg => rfl); (case hr => first | (go_simp; done) | (go_simp; rfl)); intro gb452 hg w11 hbox hb; have n0_ := Aside0.mk (below_step (bw HB.out) hb); have n1_ := Aside0.mk (hbox); have n2_ := ge_ hg HB.out; have n3_ := ge_ hg HB.out; replace HB := n0_; have BK452 := n1_; have GW452 := n2_; have GE452 := n3_; clear n0_ n1_ n2_ n3_; clear hb hbox hg; obtain ⟨hcz12_0, hcz12_1, hcz12_2, hcz12_3, hcz12_4, hfz12_0, hfz12_1, hfz12_2, hfz12_3, hfz12_4⟩ := bz5 BK452.out) | ((with_reducible refine gate_callee (f := 7) rfl ?_); refine goesL_ (some 8) rfl rfl Try.func7 (by kernel_rfl) rfl #[.slice A0_3 l0_3.length c0_3, .int .i64 a1] rfl (by (try simp only [mA_]); first | done | rfl | (simp only [List.length_drop, List.length_take]; rfl)) ?_; (with_reducible refine (laws_szJobS.calls _ _ l0_3 a1 t453 _ ?side1 ?side2 A3.out).mono ?_); (case side1 => first | exact bC HR0_3.out HB.out | exact Kd.C_below HR0_3.out HB.out); (case side2 => exact HC0_3.out); rintro e w' ⟨rfl, ⟨nd, rfl⟩⟩; refine ⟨_, rfl, ?_⟩) | ((with_reducible refine gate_callee (f := 40) rfl ?_); refine goesL_ (some 14) rfl rfl Try.func40 (by kernel_rfl) rfl #[.slice A0_4 l0_4.length c0_4, .int .i64 t453] rfl (by (try simp only [mA_]); first | done | rfl | (simp only [List.length_drop, List.length_take]; rfl)) ?_; (with_reducible refine (laws_szTaskS.calls _ _ l0_4 t453 t454 _ ?side1 ?side2 A7.out).mono ?_); (case side1 => repeat (first | exact (Kd.C_below HR0_4.out (by repeat (first | (with_reducible first | exact bw HB.out | refine bset ?_ | apply bA | apply bN | apply bD) | exact HB.out))) | (with_reducible refine Kd.C_alloc ?_ _) | (with_reducible refine Kd.C_drewN ?_ _) | (with_reducible refine Kd.C_drew ?_))); (case side2 => exact HC0_4.out); rintro e w' ⟨rfl, ⟨nd, rfl⟩⟩; refine ⟨_, rfl, ?_⟩))
 go_ret
 exact ⟨by first | rfl | (simp [errW_none, errW_some] <;> rfl) | (simp [*, errW_none, errW_some] <;> rfl), by repeat (first | (with_reducible first | exact bw HB.out | refine bset ?_ | apply bA | apply bN | apply bD) | exact HB.out)⟩

/-! ### spec_l3Job: function 97 -/
def spec_l3Job.f (l0 : List (S61)) (a1 : Int) : Option (Bool) := (spec_l1In.f a1 0 (wrap64 ((l0.length : Int) - 1))).bind fun t455 => (some t455)
set_option maxHeartbeats 8000000 in
set_option maxRecDepth 100000 in
theorem spec_l3Job.calls (A0 : Option Addr) (c0 : Nat) (l0 : List (S61)) (a1 : Int) (r : Bool) (w : World) (hr0 : Kd.C k61 w A0 l0.length l0) (hc0 : l0.length ≤ c0) (h : spec_l3Job.f l0 a1 = some r) :
  Calls Try.prog 97 #[.slice A0 l0.length c0, .int .i64 a1] w fun e w' => e = .returned (.bool r) ∧ Drawn0 w w' := by
 have HR0 := Aside0.mk hr0
 have HC0 := Aside0.mk hc0
 clear hr0 hc0
 have H : ((spec_l1In.f a1 0 (wrap64 ((l0.length : Int) - 1))).bind fun t455 => (some t455)) = some r := h
 clear h
 replace H := Option.bind_eq_some_iff.mp H
 obtain ⟨t455, A30, H⟩ := H
 replace H : (some t455) = some r := H
 have A3 := Aside0.mk A30
 clear A30
 obtain rfl := Option.some.inj H
 go_enter Try.func97, Try.ntmps97
 go_wp2_with (first | ((with_reducible refine gate_callee (f := 56) rfl ?_); refine goesL_ (some 9) rfl rfl Try.func56 (by kernel_rfl) rfl #[.int .i64 a1, .int .i64 0, .int .i64 (wrap64 ((l0.length : Int) - 1))] rfl (by (try simp only [mA_]); first | done | rfl | (simp only [List.length_drop, List.length_take]; rfl)) ?_; (with_reducible refine (spec_l1In.calls a1 0 (wrap64 ((l0.length : Int) - 1)) t455 _ A3.out).mono ?_); rintro e w' ⟨rfl, ⟨nd, rfl⟩⟩; refine ⟨_, rfl, ?_⟩))
 go_ret
 exact ⟨by first | rfl | (simp; done) | (simp [*]; done), by repeat (first | exact Drawn0.refl _ | apply Drawn0.step)⟩

/-! ### spec_l12Tasks: function 94 -/
abbrev q94_0 : Array Bool := ⟨rl_ [34] false⟩
abbrev q94_3 : Array Bool := ⟨rl_ [3, 31] true⟩
abbrev q94_4 : Array Bool := ⟨rl_ [4, 30] true⟩
abbrev q94_5 : Array Bool := ⟨rl_ [5, 29] true⟩
abbrev q94_10 : Array Bool := ⟨rl_ [10, 24] true⟩
abbrev q94_11 : Array Bool := ⟨rl_ [11, 23] true⟩
abbrev q94_13 : Array Bool := ⟨rl_ [13, 21] true⟩
abbrev q94_19 : Array Bool := ⟨rl_ [19, 15] true⟩
abbrev q94_20 : Array Bool := ⟨rl_ [20, 14] true⟩
abbrev q94_28 : Array Bool := ⟨rl_ [28, 6] true⟩
abbrev q94_29 : Array Bool := ⟨rl_ [29, 5] true⟩
abbrev q94_32 : Array Bool := ⟨rl_ [32, 2] true⟩
abbrev q94_37 : Array Bool := ⟨rl_ [26, 1, 1, 6] true⟩
abbrev q94_40 : Array Bool := ⟨rl_ [27] false⟩
abbrev q94_43 : Array Bool := ⟨rl_ [3, 24] true⟩
abbrev q94_44 : Array Bool := ⟨rl_ [4, 23] true⟩
abbrev q94_49 : Array Bool := ⟨rl_ [9, 18] true⟩
abbrev q94_50 : Array Bool := ⟨rl_ [10, 17] true⟩
abbrev q94_64 : Array Bool := ⟨rl_ [24, 3] true⟩
abbrev q94_72 : Array Bool := ⟨rl_ [15, 1, 1, 5, 1, 4] true⟩
abbrev q94_73 : Array Bool := ⟨rl_ [17, 5, 1, 4] true⟩
abbrev q94_74 : Array Bool := ⟨rl_ [18, 4, 1, 4] true⟩
abbrev q94_77 : Array Bool := ⟨rl_ [21, 1, 1, 4] true⟩
abbrev q94_78 : Array Bool := ⟨rl_ [38] false⟩
abbrev q94_86 : Array Bool := ⟨rl_ [7, 3, 1, 27] true⟩
abbrev q94_89 : Array Bool := ⟨rl_ [11, 27] true⟩
abbrev q94_90 : Array Bool := ⟨rl_ [12, 26] true⟩
abbrev q94_100 : Array Bool := ⟨rl_ [22, 16] true⟩
abbrev q94_101 : Array Bool := ⟨rl_ [23, 15] true⟩
abbrev q94_111 : Array Bool := ⟨rl_ [33, 5] true⟩
abbrev q94_112 : Array Bool := ⟨rl_ [34, 4] true⟩
abbrev q94_120 : Array Bool := ⟨rl_ [18, 3, 1, 16] true⟩
abbrev q94_126 : Array Bool := ⟨rl_ [29, 3, 1, 5] true⟩
mutual
def spec_l12Tasks.l0 : Nat → Int → Int → Int → Int → List (S61) → List (S98) → Option (Bool)
 | 0, _, _, _, _, _, _ => none
 | k + 1, x3, x457000, x457001, x457002, x457003, x457004 => if x3 < (x457004.length : Int) then (if 0 ≤ x3 then ((spec_l3Job.f x457003 ((rd_T98 x457004 x3).f0)).bind fun t459 => (if t459 = true then ((spec_l1In.f ((rd_T98 x457004 x3).f1) 0 (wrap64 (x457000 - 1))).bind fun t460 => (if t460 = true then (if ((rd_T98 x457004 x3).f2) ≥ x457002 then (spec_l12Tasks.j1 k x3 true x457000 x457001 x457002 x457003 x457004 ((rd_T98 x457004 x3).f0) ((rd_T98 x457004 x3).f1) ((rd_T98 x457004 x3).f2)) else (if 0 ≤ ((rd_T98 x457004 x3).f0) then (if ((rd_T98 x457004 x3).f0) < (x457003.length : Int) then (spec_l12Tasks.j1 k x3 (decide (((rd_T98 x457004 x3).f2) < ((rd_T61 x457003 ((rd_T98 x457004 x3).f0)).f2))) x457000 x457001 x457002 x457003 x457004 ((rd_T98 x457004 x3).f0) ((rd_T98 x457004 x3).f1) ((rd_T98 x457004 x3).f2)) else (none)) else (none))) else (spec_l12Tasks.j1 k x3 true x457000 x457001 x457002 x457003 x457004 ((rd_T98 x457004 x3).f0) ((rd_T98 x457004 x3).f1) ((rd_T98 x457004 x3).f2)))) else (spec_l12Tasks.j1 k x3 true x457000 x457001 x457002 x457003 x457004 ((rd_T98 x457004 x3).f0) ((rd_T98 x457004 x3).f1) ((rd_T98 x457004 x3).f2)))) else (none)) else (some true)
def spec_l12Tasks.j1 : Nat → Int → Bool → Int → Int → Int → List (S61) → List (S98) → Int → Int → Int → Option (Bool)
 | 0, _, _, _, _, _, _, _, _, _, _ => none
 | k + 1, x3, x52, x457000, x457001, x457002, x457003, x457004, x459000, x459001, x459002 => if x52 = true then (some false) else (spec_l12Tasks.l1 k x3 0 x457000 x457001 x457002 x457003 x457004 x459000 x459001 x459002)
def spec_l12Tasks.l1 : Nat → Int → Int → Int → Int → Int → List (S61) → List (S98) → Int → Int → Int → Option (Bool)
 | 0, _, _, _, _, _, _, _, _, _, _ => none
 | k + 1, x3, x5, x457000, x457001, x457002, x457003, x457004, x459000, x459001, x459002 => if x5 < x3 then (if 0 ≤ x5 then (if x5 < (x457004.length : Int) then (if ((rd_T98 x457004 x5).f0) = x459000 then (some false) else (if ((rd_T98 x457004 x5).f1) = x459001 then (if 0 ≤ ((rd_T98 x457004 x5).f0) then (if ((rd_T98 x457004 x5).f0) < (x457003.length : Int) then (if (wrap64 (((rd_T98 x457004 x5).f2) + ((rd_T61 x457003 ((rd_T98 x457004 x5).f0)).f0))) > x459002 then (some false) else (spec_l12Tasks.l1 k x3 (wrap64 (x5 + 1)) x457000 x457001 x457002 x457003 x457004 x459000 x459001 x459002)) else (none)) else (none)) else (spec_l12Tasks.l1 k x3 (wrap64 (x5 + 1)) x457000 x457001 x457002 x457003 x457004 x459000 x459001 x459002))) else (none)) else (none)) else (if x3 > 0 then (if 0 ≤ (wrap64 (x3 - 1)) then (if (wrap64 (x3 - 1)) < (x457004.length : Int) then (if ((rd_T98 x457004 (wrap64 (x3 - 1))).f2) > x459002 then (some false) else (if ((rd_T98 x457004 (wrap64 (x3 - 1))).f2) = x459002 then (if ((rd_T98 x457004 (wrap64 (x3 - 1))).f1) ≥ x459001 then (some false) else (spec_l12Tasks.l0 k (wrap64 (x3 + 1)) x457000 x457001 x457002 x457003 x457004)) else (spec_l12Tasks.l0 k (wrap64 (x3 + 1)) x457000 x457001 x457002 x457003 x457004))) else (none)) else (none)) else (spec_l12Tasks.l0 k (wrap64 (x3 + 1)) x457000 x457001 x457002 x457003 x457004))
end
def spec_l12Tasks.f (k : Nat) (a0_0 : Int) (a0_1 : Int) (a0_2 : Int) (l0_3 : List (S61)) (l0_4 : List (S98)) : Option (Bool) := spec_l12Tasks.l0 k 0 a0_0 a0_1 a0_2 l0_3 l0_4
theorem spec_l12Tasks.mono_l : ∀ k, (∀ y0 y1 y2 y3 y4 y5, LeO (spec_l12Tasks.l0 k y0 y1 y2 y3 y4 y5) (spec_l12Tasks.l0 (k + 1) y0 y1 y2 y3 y4 y5)) ∧ (∀ y0 y1 y2 y3 y4 y5 y6 y7 y8 y9, LeO (spec_l12Tasks.j1 k y0 y1 y2 y3 y4 y5 y6 y7 y8 y9) (spec_l12Tasks.j1 (k + 1) y0 y1 y2 y3 y4 y5 y6 y7 y8 y9)) ∧ (∀ y0 y1 y2 y3 y4 y5 y6 y7 y8 y9, LeO (spec_l12Tasks.l1 k y0 y1 y2 y3 y4 y5 y6 y7 y8 y9) (spec_l12Tasks.l1 (k + 1) y0 y1 y2 y3 y4 y5 y6 y7 y8 y9))
 | 0 => ⟨fun _ _ _ _ _ _ r h => by simp [spec_l12Tasks.l0] at h, fun _ _ _ _ _ _ _ _ _ _ r h => by simp [spec_l12Tasks.j1] at h, fun _ _ _ _ _ _ _ _ _ _ r h => by simp [spec_l12Tasks.l1] at h⟩
 | k + 1 => by
  obtain ⟨ih0, ih1, ih2⟩ := spec_l12Tasks.mono_l k
  refine ⟨?_, ?_, ?_⟩
  ·intro y0 y1 y2 y3 y4 y5
   unfold spec_l12Tasks.l0
   repeat' first
   | (with_reducible exact ih0 _ _ _ _ _ _)
   | (with_reducible exact ih1 _ _ _ _ _ _ _ _ _ _)
   | (with_reducible exact ih2 _ _ _ _ _ _ _ _ _ _)
   | (with_reducible exact LeO.refl _)
   | (with_reducible exact LeO.none _)
   | (with_reducible refine LeO.ite ?_ ?_)
   | (with_reducible refine LeO.bind ?_ (fun _ => ?_))
   | exact ih0 _ _ _ _ _ _
   | exact ih1 _ _ _ _ _ _ _ _ _ _
   | exact ih2 _ _ _ _ _ _ _ _ _ _
   | exact LeO.none _
   | refine LeO.ite ?_ ?_
   | refine LeO.bind ?_ (fun _ => ?_)
  ·intro y0 y1 y2 y3 y4 y5 y6 y7 y8 y9
   unfold spec_l12Tasks.j1
   repeat' first
   | (with_reducible exact ih0 _ _ _ _ _ _)
   | (with_reducible exact ih1 _ _ _ _ _ _ _ _ _ _)
   | (with_reducible exact ih2 _ _ _ _ _ _ _ _ _ _)
   | (with_reducible exact LeO.refl _)
   | (with_reducible exact LeO.none _)
   | (with_reducible refine LeO.ite ?_ ?_)
   | (with_reducible refine LeO.bind ?_ (fun _ => ?_))
   | exact ih0 _ _ _ _ _ _
   | exact ih1 _ _ _ _ _ _ _ _ _ _
   | exact ih2 _ _ _ _ _ _ _ _ _ _
   | exact LeO.none _
   | refine LeO.ite ?_ ?_
   | refine LeO.bind ?_ (fun _ => ?_)
  ·intro y0 y1 y2 y3 y4 y5 y6 y7 y8 y9
   unfold spec_l12Tasks.l1
   repeat' first
   | (with_reducible exact ih0 _ _ _ _ _ _)
   | (with_reducible exact ih1 _ _ _ _ _ _ _ _ _ _)
   | (with_reducible exact ih2 _ _ _ _ _ _ _ _ _ _)
   | (with_reducible exact LeO.refl _)
   | (with_reducible exact LeO.none _)
   | (with_reducible refine LeO.ite ?_ ?_)
   | (with_reducible refine LeO.bind ?_ (fun _ => ?_))
   | exact ih0 _ _ _ _ _ _
   | exact ih1 _ _ _ _ _ _ _ _ _ _
   | exact ih2 _ _ _ _ _ _ _ _ _ _
   | exact LeO.none _
   | refine LeO.ite ?_ ?_
   | refine LeO.bind ?_ (fun _ => ?_)
theorem spec_l12Tasks.mono : ∀ a0 a1 a2 a3 a4 k, LeO (spec_l12Tasks.f k a0 a1 a2 a3 a4) (spec_l12Tasks.f (k + 1) a0 a1 a2 a3 a4) := by
 intro a0 a1 a2 a3 a4 k
 obtain ⟨ih0, ih1, ih2⟩ := spec_l12Tasks.mono_l k
 unfold spec_l12Tasks.f
 repeat' first
   | (with_reducible exact ih0 _ _ _ _ _ _)
   | (with_reducible exact ih1 _ _ _ _ _ _ _ _ _ _)
   | (with_reducible exact ih2 _ _ _ _ _ _ _ _ _ _)
   | (with_reducible exact LeO.refl _)
   | (with_reducible exact LeO.none _)
   | (with_reducible refine LeO.ite ?_ ?_)
   | (with_reducible refine LeO.bind ?_ (fun _ => ?_))
   | exact ih0 _ _ _ _ _ _
   | exact ih1 _ _ _ _ _ _ _ _ _ _
   | exact ih2 _ _ _ _ _ _ _ _ _ _
   | exact LeO.none _
   | refine LeO.ite ?_ ?_
   | refine LeO.bind ?_ (fun _ => ?_)
def spec_l12Tasks.T5 : Bool × List (List Nat × List Nat) := (true, [([], []), ([0], [0]), ([], []), ([2], [2]), ([1, 3], [1, 3]), ([4], [4]), ([5, 4], [5]), ([6], [6]), ([7, 6], [6, 7]), ([6], [6]), ([9, 6], [6, 9]), ([10, 6], [6, 10]), ([8, 11, 6, 6], [6, 8, 11]), ([12, 6], [6, 12]), ([6, 13], [6, 13]), ([14, 12], [14]), ([15], [15]), ([16, 15], [15, 16]), ([15], [15]), ([18, 15], [15, 18]), ([17, 19, 15], [15, 17, 19]), ([15, 20], [15, 20]), ([21, 15], [21]), ([22], [22]), ([23, 22], [22, 23]), ([22], [22]), ([25, 22], [22, 25]), ([22], [22]), ([27, 22], [22, 27]), ([26, 28, 22], [22, 26, 28]), ([29, 22], [22, 29]), ([30, 22], [22, 30]), ([24, 31, 22], [22, 24, 31]), ([22, 32], [22, 32])])
def spec_l12Tasks.B5 : List Nat := [0, 1, 0, 4, 15, 31, 63, 127, 255, 127, 639, 1663, 4095, 8191, 16383, 32767, 65535, 131071, 65535, 327679, 1048575, 2097151, 4194303, 8388607, 16777215, 8388607, 41943039, 8388607, 142606335, 511705087, 1048575999, 2122317823, 4294967295, 8589934591]
theorem spec_l12Tasks.tab5 : rtab .any (opsOf Try.f94 5) = spec_l12Tasks.T5 := by kernel_rfl
theorem spec_l12Tasks.bits5 : waitsOk spec_l12Tasks.T5.2 spec_l12Tasks.B5 = true := by kernel_rfl
def spec_l12Tasks.T11 : Bool × List (List Nat × List Nat) := (true, [([], []), ([0], [0]), ([], []), ([2], [2]), ([1, 3], [1, 3]), ([4], [4]), ([5], [5]), ([6, 5], [5, 6]), ([5], [5]), ([8, 5], [5, 8]), ([7, 9, 5], [5, 7, 9]), ([10, 5, 5], [5, 10]), ([11], [11]), ([12, 11], [11, 12]), ([11], [11]), ([14, 11], [11, 14]), ([11], [11]), ([16, 11], [11, 16]), ([15, 17, 11], [11, 15, 17]), ([18, 11], [11, 18]), ([19, 11], [11, 19]), ([13, 20, 11], [11, 13, 20]), ([11], [11]), ([22, 11], [11, 22]), ([21, 23, 11], [11, 21, 23]), ([11, 24, 5], [5, 11, 24]), ([5, 25], [5, 25])])
def spec_l12Tasks.B11 : List Nat := [0, 1, 0, 4, 15, 31, 63, 127, 63, 319, 1023, 2047, 4095, 8191, 4095, 20479, 4095, 69631, 249855, 511999, 1036287, 2097151, 4095, 4198399, 16777215, 33554431, 67108863]
theorem spec_l12Tasks.tab11 : rtab .any (opsOf Try.f94 11) = spec_l12Tasks.T11 := by kernel_rfl
theorem spec_l12Tasks.bits11 : waitsOk spec_l12Tasks.T11.2 spec_l12Tasks.B11 = true := by kernel_rfl
def spec_l12Tasks.T13 : Bool × List (List Nat × List Nat) := (true, [([], []), ([0], [0]), ([1], [1]), ([2], [2]), ([3, 2], [2, 3]), ([2], [2]), ([5, 2], [2, 5]), ([4, 6, 2], [2, 4, 6]), ([7, 2], [2, 7]), ([8, 2], [2, 8]), ([2], [2]), ([10, 2], [2, 10]), ([9, 11, 2], [2, 9, 11]), ([12, 2, 2], [2, 12]), ([13], [13]), ([14, 13], [13, 14]), ([13], [13]), ([16, 13], [13, 16]), ([15, 17, 13], [13, 15, 17]), ([18, 13], [13, 18]), ([19, 13], [13, 19]), ([13], [13]), ([21, 13], [13, 21]), ([20, 22, 13], [13, 20, 22]), ([23, 13, 13], [13, 23]), ([24], [24]), ([25, 24], [24, 25]), ([24], [24]), ([27, 24], [24, 27]), ([26, 28, 24], [24, 26, 28]), ([29, 24], [24, 29]), ([30, 24], [24, 30]), ([24], [24]), ([32, 24], [24, 32]), ([31, 33, 24], [24, 31, 33]), ([24, 34, 13], [13, 24, 34]), ([13, 35, 2], [2, 13, 35]), ([2, 36], [2, 36])])
def spec_l12Tasks.B13 : List Nat := [0, 1, 3, 7, 15, 7, 39, 127, 255, 511, 7, 1031, 4095, 8191, 16383, 32767, 16383, 81919, 262143, 524287, 1048575, 16383, 2113535, 8388607, 16777215, 33554431, 67108863, 33554431, 167772159, 536870911, 1073741823, 2147483647, 33554431, 4328521727, 17179869183, 34359738367, 68719476735, 137438953471]
theorem spec_l12Tasks.tab13 : rtab .any (opsOf Try.f94 13) = spec_l12Tasks.T13 := by kernel_rfl
theorem spec_l12Tasks.bits13 : waitsOk spec_l12Tasks.T13.2 spec_l12Tasks.B13 = true := by kernel_rfl
set_option maxHeartbeats 8000000 in
set_option maxRecDepth 100000 in
theorem spec_l12Tasks.calls (k : Nat) (a0_0 : Int) (a0_1 : Int) (a0_2 : Int) (A0_3 : Option Addr) (c0_3 : Nat) (l0_3 : List (S61)) (A0_4 : Option Addr) (c0_4 : Nat) (l0_4 : List (S98)) (r : Bool) (w : World) (hr0_3 : Kd.C k61 w A0_3 l0_3.length l0_3) (hc0_3 : l0_3.length ≤ c0_3) (hr0_4 : Kd.C k98 w A0_4 l0_4.length l0_4) (hc0_4 : l0_4.length ≤ c0_4) (h : spec_l12Tasks.f k a0_0 a0_1 a0_2 l0_3 l0_4 = some r) :
  Calls Try.prog 94 #[.agg #[.int .i64 a0_0, .int .i64 a0_1, .int .i64 a0_2, .slice A0_3 l0_3.length c0_3, .slice A0_4 l0_4.length c0_4]] w fun e w' => e = .returned (.bool r) ∧ Below w.heap.size w w' := by
 have hu43 := Try.underlying43
 have hu98 := Try.underlying98
 have HR0_3 := Aside0.mk hr0_3
 have HC0_3 := Aside0.mk hc0_3
 clear hr0_3 hc0_3
 have HR0_4 := Aside0.mk hr0_4
 have HC0_4 := Aside0.mk hc0_4
 clear hr0_4 hc0_4
 have HB := Aside0.mk (Below.refl w.heap.size w)
 have H : (spec_l12Tasks.l0 k 0 a0_0 a0_1 a0_2 l0_3 l0_4) = some r := h
 clear h
 have H' := Aside0.mk H
 clear H
 go_enter Try.func94, Try.ntmps94
 go_wp2_with (first | ((with_reducible refine gate_dst (N := 1) rfl ?_); refine box_event ?hg (N := 1) ?hd (cs := #[.int .i64 a0_0, .int .i64 a0_1, .int .i64 a0_2, .slice A0_3 l0_3.length c0_3, .slice A0_4 l0_4.length c0_4]) (t := 43) ?hr ?_; (case hd => rfl); (case hg => rfl); (case hr => first | (go_simp; done) | (go_simp; rfl)); intro gb456 hg w2 hbox hb; have n0_ := Aside0.mk (below_step (bw HB.out) hb); have n1_ := Aside0.mk (hbox); have n2_ := ge_ hg HB.out; have n3_ := ge_ hg HB.out; replace HB := n0_; have BK456 := n1_; have GW456 := n2_; have GE456 := n3_; clear n0_ n1_ n2_ n3_; clear hb hbox hg))
 go_loopg [3] k (fun kq v3 w' => ∃ (x3_1 : Int), v3 = .int .i64 x3_1 ∧ Aside0 (spec_l12Tasks.l0 kq x3_1 a0_0 a0_1 a0_2 l0_3 l0_4 = some r) ∧ Aside0 (kq ≤ k) ∧ Aside0 (w'.heap[gb456]? = some (.cells #[.int .i64 a0_0, .int .i64 a0_1, .int .i64 a0_2, (.slice A0_3 l0_3.length c0_3), (.slice A0_4 l0_4.length c0_4)] 43 (0, 0))) ∧ Aside0 (Below w.heap.size w w'))
 case atStart => exact ⟨(0), (by first | rfl | (simp; done) | (simp [*]; done)), H', ⟨Nat.le_refl _⟩, ⟨bs BK456.out⟩, ⟨by repeat (first | (with_reducible first | exact bw HB.out | refine bset ?_ | apply bA | apply bN | apply bD) | exact HB.out)⟩⟩
 case round =>
  clear H'
  try clear p2
  obtain ⟨x3_1, rfl, HA, HK1, BK456, HB⟩ := hrel
  cases gk with
  | zero => exact absurd HA.out (by simp [spec_l12Tasks.l0])
  | succ k1 =>
   have H := HA.out
   clear HA
   simp only [spec_l12Tasks.l0] at H
   by_cases c3 : x3_1 < (l0_4.length : Int)
   rotate_left
   ·rw [if_neg c3] at H
    have c3b0 : decide (x3_1 < (l0_4.length : Int)) = false := decide_eq_false c3
    clear c3
    obtain rfl := Option.some.inj H
    obtain ⟨hcz78_0, hcz78_1, hcz78_2, hcz78_3, hcz78_4, hfz78_0, hfz78_1, hfz78_2, hfz78_3, hfz78_4⟩ := bz5 BK456.out
    go_wp2
    go_ret
    exact ⟨by first | rfl | (simp [errW_none, errW_some] <;> rfl) | (simp [*, errW_none, errW_some] <;> rfl), by repeat (first | (with_reducible first | exact bw HB.out | refine bset ?_ | apply bA | apply bN | apply bD) | exact HB.out)⟩
   rw [if_pos c3] at H
   have c3b0 : decide (x3_1 < (l0_4.length : Int)) = true := decide_eq_true c3
   clear c3
   by_cases c4 : 0 ≤ x3_1
   rotate_left
   ·rw [if_neg c4] at H
    exact absurd H (by simp)
   rw [if_pos c4] at H
   have c4b0 : decide (0 ≤ x3_1) = true := decide_eq_true c4
   clear c4
   have HC5 := Aside0.mk H
   clear H
   obtain ⟨hcz6_0, hcz6_1, hcz6_2, hcz6_3, hcz6_4, hfz6_0, hfz6_1, hfz6_2, hfz6_3, hfz6_4⟩ := bz5 BK456.out
   have p457 : 0 ≤ (x3_1 : Int) := of_decide_eq_true (by first | (with_reducible assumption) | assumption)
   have q457 : x3_1 < (l0_4.length : Int) := of_decide_eq_true (by first | (with_reducible assumption) | assumption)
   obtain ⟨ad457, e457, hx457_0, hx457_1, hx457_2⟩ := at_T98 HR0_4.out x3_1 p457 q457
   cases e457
   replace hx457_0 := (HB.out.cell (World.block_lt_of_cell? w _ hx457_0)).trans hx457_0
   replace hx457_1 := (HB.out.cell (World.block_lt_of_cell? w _ hx457_1)).trans hx457_1
   replace hx457_2 := (HB.out.cell (World.block_lt_of_cell? w _ hx457_2)).trans hx457_2
   replace p457 := eq_true p457
   replace q457 := eq_true q457
   go_upto_region 5 with (first | ((with_reducible refine gate_dst (N := 4) rfl ?_); refine box_event ?hg (N := 4) ?hd (cs := #[.int .i64 0, .int .i64 0, .int .i64 0]) (t := 98) ?hr ?_; (case hd => rfl); (case hg => rfl); (case hr => first | (go_simp; done) | (go_simp; rfl)); intro gb458 hg w7 hbox hb; have n0_ := Aside0.mk (blk_below (bs BK456.out) hb); have n1_ := Aside0.mk (below_step (by repeat (first | (with_reducible first | exact bw HB.out | refine bset ?_ | apply bA | apply bN | apply bD) | exact HB.out)) hb); have n2_ := Aside0.mk (hbox); have n3_ := Aside0.mk ((by rw [hg]; exact (below_size (by repeat (first | (with_reducible first | exact bw HB.out | refine bset ?_ | apply bA | apply bN | apply bD) | exact HB.out))) : w.heap.size ≤ gb458)); have n4_ := Aside0.mk ((by rw [hg]; exact (below_size (by repeat (first | (with_reducible first | exact bw HB.out | refine bset ?_ | apply bA | apply bN | apply bD) | exact HB.out))) : w.heap.size ≤ gb458)); have n5_ := ne_ hg BK456.out; have n6_ := en_ hg BK456.out; replace BK456 := n0_; replace HB := n1_; have BK458 := n2_; have GW458 := n3_; have GE458 := n4_; have NB456_458 := n5_; have NB458_456 := n6_; clear n0_ n1_ n2_ n3_ n4_ n5_ n6_; clear hb hbox hg; have hnb8 := NB458_456.out; have hnc8 := NB456_458.out; obtain ⟨hcz9_0, hcz9_1, hcz9_2, hfz9_0, hfz9_1, hfz9_2⟩ := bz3 BK458.out))
   (try simp only [Act.put, List.setIfInBounds_toArray, List.set_cons_zero, List.set_cons_succ])
   go_cut [52] (fun v52 wc => ∃ (kq : Nat) (x52_4 : Bool), v52 = .bool x52_4 ∧ Aside0 (spec_l12Tasks.j1 kq x3_1 x52_4 a0_0 a0_1 a0_2 l0_3 l0_4 ((rd_T98 l0_4 x3_1).f0) ((rd_T98 l0_4 x3_1).f1) ((rd_T98 l0_4 x3_1).f2) = some r) ∧ Aside0 (kq ≤ k1) ∧ Aside0 (wc.heap[gb456]? = some (.cells #[.int .i64 a0_0, .int .i64 a0_1, .int .i64 a0_2, (.slice A0_3 l0_3.length c0_3), (.slice (some ad457) l0_4.length c0_4)] 43 (0, 0))) ∧ Aside0 (wc.heap[gb458]? = some (.cells #[.int .i64 ((rd_T98 l0_4 x3_1).f0), .int .i64 ((rd_T98 l0_4 x3_1).f1), .int .i64 ((rd_T98 l0_4 x3_1).f2)] 98 (0, 0))) ∧ Aside0 (Below w.heap.size w wc))
   case first =>
    have H := HC5.out
    clear HC5
    replace H := Option.bind_eq_some_iff.mp H
    obtain ⟨t459, A100, H⟩ := H
    replace H : (if t459 = true then ((spec_l1In.f ((rd_T98 l0_4 x3_1).f1) 0 (wrap64 (a0_0 - 1))).bind fun t460 => (if t460 = true then (if ((rd_T98 l0_4 x3_1).f2) ≥ a0_2 then (spec_l12Tasks.j1 k1 x3_1 true a0_0 a0_1 a0_2 l0_3 l0_4 ((rd_T98 l0_4 x3_1).f0) ((rd_T98 l0_4 x3_1).f1) ((rd_T98 l0_4 x3_1).f2)) else (if 0 ≤ ((rd_T98 l0_4 x3_1).f0) then (if ((rd_T98 l0_4 x3_1).f0) < (l0_3.length : Int) then (spec_l12Tasks.j1 k1 x3_1 (decide (((rd_T98 l0_4 x3_1).f2) < ((rd_T61 l0_3 ((rd_T98 l0_4 x3_1).f0)).f2))) a0_0 a0_1 a0_2 l0_3 l0_4 ((rd_T98 l0_4 x3_1).f0) ((rd_T98 l0_4 x3_1).f1) ((rd_T98 l0_4 x3_1).f2)) else (none)) else (none))) else (spec_l12Tasks.j1 k1 x3_1 true a0_0 a0_1 a0_2 l0_3 l0_4 ((rd_T98 l0_4 x3_1).f0) ((rd_T98 l0_4 x3_1).f1) ((rd_T98 l0_4 x3_1).f2)))) else (spec_l12Tasks.j1 k1 x3_1 true a0_0 a0_1 a0_2 l0_3 l0_4 ((rd_T98 l0_4 x3_1).f0) ((rd_T98 l0_4 x3_1).f1) ((rd_T98 l0_4 x3_1).f2))) = some r := H
    have A10 := Aside0.mk A100
    clear A100
    by_cases c11 : t459 = true
    rotate_left
    ·replace c11 := Bool.eq_false_iff.mpr c11
     subst c11
     have H1 : (spec_l12Tasks.j1 k1 x3_1 true a0_0 a0_1 a0_2 l0_3 l0_4 ((rd_T98 l0_4 x3_1).f0) ((rd_T98 l0_4 x3_1).f1) ((rd_T98 l0_4 x3_1).f2)) = some r := by rw [if_neg (show ¬ (false = true) by decide)] at H; exact H
     clear H
     have H := H1
     clear H1
     have H' := Aside0.mk H
     clear H
     try go_wp2
     have n0_ : Aside0 ((((w7.setCell ⟨gb458, 0, none⟩ (.int .i64 ((rd_T98 l0_4 x3_1).f0))).setCell ⟨gb458, 1, none⟩ (.int .i64 ((rd_T98 l0_4 x3_1).f1))).setCell ⟨gb458, 2, none⟩ (.int .i64 ((rd_T98 l0_4 x3_1).f2))).heap[gb456]? = some (.cells #[.int .i64 a0_0, .int .i64 a0_1, .int .i64 a0_2, .slice A0_3 l0_3.length c0_3, .slice (some ad457) l0_4.length c0_4] 43 (0, 0))) := ⟨by (with_reducible repeat (first | refine blk_drewN ?_ _ | refine blk_drew ?_ | refine blk_alloc ?_ _)); refine blk_far ?_ NB456_458.out _; (with_reducible repeat (first | refine blk_drewN ?_ _ | refine blk_drew ?_ | refine blk_alloc ?_ _)); refine blk_far ?_ NB456_458.out _; (with_reducible repeat (first | refine blk_drewN ?_ _ | refine blk_drew ?_ | refine blk_alloc ?_ _)); refine blk_far ?_ NB456_458.out _; exact bs BK456.out⟩
     have n1_ : Aside0 ((((w7.setCell ⟨gb458, 0, none⟩ (.int .i64 ((rd_T98 l0_4 x3_1).f0))).setCell ⟨gb458, 1, none⟩ (.int .i64 ((rd_T98 l0_4 x3_1).f1))).setCell ⟨gb458, 2, none⟩ (.int .i64 ((rd_T98 l0_4 x3_1).f2))).heap[gb458]? = some (.cells #[.int .i64 ((rd_T98 l0_4 x3_1).f0), .int .i64 ((rd_T98 l0_4 x3_1).f1), .int .i64 ((rd_T98 l0_4 x3_1).f2)] 98 (0, 0))) := ⟨by (with_reducible repeat (first | refine blk_drewN ?_ _ | refine blk_drew ?_ | refine blk_alloc ?_ _)); refine blk_put (cs := #[.int .i64 ((rd_T98 l0_4 x3_1).f0), .int .i64 ((rd_T98 l0_4 x3_1).f1), .int .i64 0]) ?_ 2 _ rfl; (with_reducible repeat (first | refine blk_drewN ?_ _ | refine blk_drew ?_ | refine blk_alloc ?_ _)); refine blk_put (cs := #[.int .i64 ((rd_T98 l0_4 x3_1).f0), .int .i64 0, .int .i64 0]) ?_ 1 _ rfl; (with_reducible repeat (first | refine blk_drewN ?_ _ | refine blk_drew ?_ | refine blk_alloc ?_ _)); refine blk_put (cs := #[.int .i64 0, .int .i64 0, .int .i64 0]) ?_ 0 _ rfl; exact bs BK458.out⟩
     have n2_ : Aside0 (Below w.heap.size w (((w7.setCell ⟨gb458, 0, none⟩ (.int .i64 ((rd_T98 l0_4 x3_1).f0))).setCell ⟨gb458, 1, none⟩ (.int .i64 ((rd_T98 l0_4 x3_1).f1))).setCell ⟨gb458, 2, none⟩ (.int .i64 ((rd_T98 l0_4 x3_1).f2)))) := ⟨by repeat (first | (with_reducible first | exact bw HB.out | refine bset ?_ | apply bA | apply bN | apply bD) | exact HB.out)⟩
     (try clear BK456)
     (try clear BK458)
     (try clear HB)
     (try simp only [setCell_drewN])
     generalize (((w7.setCell ⟨gb458, 0, none⟩ (.int .i64 ((rd_T98 l0_4 x3_1).f0))).setCell ⟨gb458, 1, none⟩ (.int .i64 ((rd_T98 l0_4 x3_1).f1))).setCell ⟨gb458, 2, none⟩ (.int .i64 ((rd_T98 l0_4 x3_1).f2))) = w23 at n0_ n1_ n2_ ⊢
     have BK456 := n0_
     have BK458 := n1_
     have HB := n2_
     clear n0_ n1_ n2_
     have n0_ := Aside0.mk (blk_drew BK456.out)
     have n1_ := Aside0.mk (blk_drew BK458.out)
     have n2_ := Aside0.mk (below_drew1 HB.out)
     replace BK456 := n0_
     replace BK458 := n1_
     replace HB := n2_
     clear n0_ n1_ n2_
     refine start_ (n := 34) (S := fun w' => w'.cell? ⟨gb456, 0, none⟩ = some (.int .i64 a0_0) ∧ w'.cell? ⟨gb456, 1, none⟩ = some (.int .i64 a0_1) ∧ w'.cell? ⟨gb456, 2, none⟩ = some (.int .i64 a0_2) ∧ w'.cell? ⟨gb456, 3, none⟩ = some (.slice A0_3 l0_3.length c0_3) ∧ w'.cell? ⟨gb456, 4, none⟩ = some (.slice (some ad457) l0_4.length c0_4) ∧ w'.cell? ⟨gb458, 0, none⟩ = some (.int .i64 ((rd_T98 l0_4 x3_1).f0)) ∧ w'.cell? ⟨gb458, 1, none⟩ = some (.int .i64 ((rd_T98 l0_4 x3_1).f1)) ∧ w'.cell? ⟨gb458, 2, none⟩ = some (.int .i64 ((rd_T98 l0_4 x3_1).f2))) (ds := []) q94_0 (by kernel_rfl) rfl rfl ⟨(blk_cell BK456.out 0).trans rfl, (blk_cell BK456.out 1).trans rfl, (blk_cell BK456.out 2).trans rfl, (blk_cell BK456.out 3).trans rfl, (blk_cell BK456.out 4).trans rfl, (blk_cell BK458.out 0).trans rfl, (blk_cell BK458.out 1).trans rfl, (blk_cell BK458.out 2).trans rfl⟩ (fun hHeld => ?_); refine with_tabW spec_l12Tasks.tab5 spec_l12Tasks.bits5 (fun HT_ HW_ => ?_)
     generalize w23.drew = w24 at BK456 BK458 HB hHeld ⊢
     refine pup_ (i := 0) (N := some 19) HT_ rfl rfl (by kernel_rfl) (fun _ _ _ h => h) (Or.inl ⟨by rfl, by intro w'; go_simp; with_reducible rfl⟩) (by simp only [aq_]; rfl) ?_
     refine pup_ (i := 2) (N := some 21) HT_ rfl rfl (by kernel_rfl) (fun _ _ _ h => h) (Or.inl ⟨by rfl, by intro w'; go_simp; with_reducible rfl⟩) (by simp only [aq_]; rfl) ?_
     refine take_ (i := 1) (N := some 20) (v := ?_) (a' := ?_) q94_3 rfl rfl (take_ofW HT_.out HW_.out (by kernel_rfl)) (fun _ _ _ h => h) (Or.inl ⟨by rfl, ?_⟩) hHeld ?_ ?_
     rotate_left
     ·rintro w' ⟨s0, s1, s2, s3, s4, s5, s6, s7⟩
      go_simp
      with_reducible rfl
     rotate_left
     ·simp only [aq_]
      rfl
     refine take_ (i := 3) (N := some 22) (v := ?_) (a' := ?_) q94_4 rfl rfl (take_ofW HT_.out HW_.out (by kernel_rfl)) (fun _ _ _ h => h) (Or.inl ⟨by rfl, ?_⟩) hHeld ?_ ?_
     rotate_left
     ·rintro w' ⟨s0, s1, s2, s3, s4, s5, s6, s7⟩
      go_simp
      with_reducible rfl
     rotate_left
     ·simp only [aq_]
      rfl
     refine one_ (i := 4) (N := some 23) q94_5 rfl rfl (one_of HT_.out (by kernel_rfl)) (by decide) (fun K hK => ?_)
     refine goes_ Try.func97 (by kernel_rfl) rfl #[.slice A0_3 l0_3.length c0_3, .int .i64 ((rd_T98 l0_4 x3_1).f0)] (by rfl) rfl rfl (by (try simp only [mA_]); first | done | rfl | (simp only [List.length_drop, List.length_take]; rfl)) ?_
     with_reducible refine (spec_l3Job.calls _ _ l0_3 ((rd_T98 l0_4 x3_1).f0) false _ ?side1 ?side2 A10.out).mono ?_
     (case side1 => first | exact bC HR0_3.out HB.out | exact Kd.C_below HR0_3.out HB.out)
     (case side2 => exact HC0_3.out)
     rintro e w' ⟨rfl, ⟨nd, rfl⟩⟩
     refine ⟨_, rfl, ?_⟩
     refine hK.out _ _ ⟨(blk_cell BK456.out 0).trans rfl, (blk_cell BK456.out 1).trans rfl, (blk_cell BK456.out 2).trans rfl, (blk_cell BK456.out 3).trans rfl, (blk_cell BK456.out 4).trans rfl, (blk_cell BK458.out 0).trans rfl, (blk_cell BK458.out 1).trans rfl, (blk_cell BK458.out 2).trans rfl⟩ (fun hHeld => ?_)
     clear hK K
     refine norm_ (a' := ?_) ?_ ?_
     rotate_left
     ·show Act.put _ (some 23) _ = _
      simp only [aq_]
      rfl
     refine pup_ (i := 5) (N := some 24) HT_ rfl rfl (by kernel_rfl) (fun _ _ _ h => h) (Or.inl ⟨by rfl, by intro w'; go_simp; with_reducible rfl⟩) (by simp only [aq_]; rfl) ?_
     refine pup_ (i := 6) (N := some 25) HT_ rfl rfl (by kernel_rfl) (fun _ _ _ h => h) (Or.inl ⟨by rfl, by intro w'; go_simp; with_reducible rfl⟩) (by simp only [aq_]; rfl) ?_
     refine skp_ HT_ 7 (some 26) rfl rfl (by kernel_rfl) (fun _ _ _ h => h) (by rfl) (by simp only [aq_]; rfl) ?_
     refine skp_ HT_ 8 (some 27) rfl rfl (by kernel_rfl) (fun _ _ _ h => h) (by rfl) (by simp only [aq_]; rfl) ?_
     refine skp_ HT_ 9 (some 28) rfl rfl (by kernel_rfl) (fun _ _ _ h => h) (by rfl) (by simp only [aq_]; rfl) ?_
     refine skp_ HT_ 10 (some 29) rfl rfl (by kernel_rfl) (fun _ _ _ h => h) (by rfl) (by simp only [aq_]; rfl) ?_
     refine skp_ HT_ 11 (some 30) rfl rfl (by kernel_rfl) (fun _ _ _ h => h) (by rfl) (by simp only [aq_]; rfl) ?_
     refine skp_ HT_ 12 (some 31) rfl rfl (by kernel_rfl) (fun _ _ _ h => h) (by rfl) (by simp only [aq_]; rfl) ?_
     refine skp_ HT_ 13 (some 32) rfl rfl (by kernel_rfl) (fun _ _ _ h => h) (by rfl) (by simp only [aq_]; rfl) ?_
     refine pup_ (i := 14) (N := some 33) HT_ rfl rfl (by kernel_rfl) (fun _ _ _ h => h) (Or.inl ⟨by rfl, by intro w'; go_simp; with_reducible rfl⟩) (by simp only [aq_]; rfl) ?_
     refine pup_ (i := 15) (N := some 34) HT_ rfl rfl (by kernel_rfl) (fun _ _ _ h => h) (Or.inl ⟨by rfl, by intro w'; go_simp; with_reducible rfl⟩) (by simp only [aq_]; rfl) ?_
     refine skp_ HT_ 16 (some 35) rfl rfl (by kernel_rfl) (fun _ _ _ h => h) (by rfl) (by simp only [aq_]; rfl) ?_
     refine skp_ HT_ 17 (some 36) rfl rfl (by kernel_rfl) (fun _ _ _ h => h) (by rfl) (by simp only [aq_]; rfl) ?_
     refine skp_ HT_ 18 (some 37) rfl rfl (by kernel_rfl) (fun _ _ _ h => h) (by rfl) (by simp only [aq_]; rfl) ?_
     refine skp_ HT_ 19 (some 38) rfl rfl (by kernel_rfl) (fun _ _ _ h => h) (by rfl) (by simp only [aq_]; rfl) ?_
     refine skp_ HT_ 20 (some 39) rfl rfl (by kernel_rfl) (fun _ _ _ h => h) (by rfl) (by simp only [aq_]; rfl) ?_
     refine pup_ (i := 21) (N := some 40) HT_ rfl rfl (by kernel_rfl) (fun _ _ _ h => h) (Or.inl ⟨by rfl, by intro w'; go_simp; with_reducible rfl⟩) (by simp only [aq_]; rfl) ?_
     refine pup_ (i := 22) (N := some 41) HT_ rfl rfl (by kernel_rfl) (fun _ _ _ h => h) (Or.inl ⟨by rfl, by intro w'; go_simp; with_reducible rfl⟩) (by simp only [aq_]; rfl) ?_
     refine skp_ HT_ 23 (some 42) rfl rfl (by kernel_rfl) (fun _ _ _ h => h) (by rfl) (by simp only [aq_]; rfl) ?_
     refine skp_ HT_ 24 (some 43) rfl rfl (by kernel_rfl) (fun _ _ _ h => h) (by rfl) (by simp only [aq_]; rfl) ?_
     refine skp_ HT_ 25 (some 44) rfl rfl (by kernel_rfl) (fun _ _ _ h => h) (by rfl) (by simp only [aq_]; rfl) ?_
     refine skp_ HT_ 26 (some 45) rfl rfl (by kernel_rfl) (fun _ _ _ h => h) (by rfl) (by simp only [aq_]; rfl) ?_
     refine skp_ HT_ 27 (some 46) rfl rfl (by kernel_rfl) (fun _ _ _ h => h) (by rfl) (by simp only [aq_]; rfl) ?_
     refine skp_ HT_ 28 (some 47) rfl rfl (by kernel_rfl) (fun _ _ _ h => h) (by rfl) (by simp only [aq_]; rfl) ?_
     refine skp_ HT_ 29 (some 48) rfl rfl (by kernel_rfl) (fun _ _ _ h => h) (by rfl) (by simp only [aq_]; rfl) ?_
     refine skp_ HT_ 30 (some 49) rfl rfl (by kernel_rfl) (fun _ _ _ h => h) (by rfl) (by simp only [aq_]; rfl) ?_
     refine skp_ HT_ 31 (some 50) rfl rfl (by kernel_rfl) (fun _ _ _ h => h) (by rfl) (by simp only [aq_]; rfl) ?_
     refine skp_ HT_ 32 (some 51) rfl rfl (by kernel_rfl) (fun _ _ _ h => h) (by rfl) (by simp only [aq_]; rfl) ?_
     refine pup_ (i := 33) (N := some 52) HT_ rfl rfl (by kernel_rfl) (fun _ _ _ h => h) (Or.inl ⟨by rfl, by intro w'; go_simp; with_reducible rfl⟩) (by simp only [aq_]; rfl) ?_
     refine done_ (done_of HT_.out (by kernel_rfl)) ?_
     try go_wp2
     go_meet
     case rel => exact ⟨_, (true), (by first | rfl | (simp; done) | (simp [*]; done)), H', ⟨by have := HK1.out; first | omega | exact Nat.le_refl _⟩, ⟨bs BK456.out⟩, ⟨bs BK458.out⟩, ⟨by repeat (first | (with_reducible first | exact bw HB.out | refine bset ?_ | apply bA | apply bN | apply bD) | exact HB.out)⟩⟩
    subst c11
    have H1 : ((spec_l1In.f ((rd_T98 l0_4 x3_1).f1) 0 (wrap64 (a0_0 - 1))).bind fun t460 => (if t460 = true then (if ((rd_T98 l0_4 x3_1).f2) ≥ a0_2 then (spec_l12Tasks.j1 k1 x3_1 true a0_0 a0_1 a0_2 l0_3 l0_4 ((rd_T98 l0_4 x3_1).f0) ((rd_T98 l0_4 x3_1).f1) ((rd_T98 l0_4 x3_1).f2)) else (if 0 ≤ ((rd_T98 l0_4 x3_1).f0) then (if ((rd_T98 l0_4 x3_1).f0) < (l0_3.length : Int) then (spec_l12Tasks.j1 k1 x3_1 (decide (((rd_T98 l0_4 x3_1).f2) < ((rd_T61 l0_3 ((rd_T98 l0_4 x3_1).f0)).f2))) a0_0 a0_1 a0_2 l0_3 l0_4 ((rd_T98 l0_4 x3_1).f0) ((rd_T98 l0_4 x3_1).f1) ((rd_T98 l0_4 x3_1).f2)) else (none)) else (none))) else (spec_l12Tasks.j1 k1 x3_1 true a0_0 a0_1 a0_2 l0_3 l0_4 ((rd_T98 l0_4 x3_1).f0) ((rd_T98 l0_4 x3_1).f1) ((rd_T98 l0_4 x3_1).f2)))) = some r := by rw [if_pos rfl] at H; exact H
    clear H
    have H := H1
    clear H1
    replace H := Option.bind_eq_some_iff.mp H
    obtain ⟨t460, A120, H⟩ := H
    replace H : (if t460 = true then (if ((rd_T98 l0_4 x3_1).f2) ≥ a0_2 then (spec_l12Tasks.j1 k1 x3_1 true a0_0 a0_1 a0_2 l0_3 l0_4 ((rd_T98 l0_4 x3_1).f0) ((rd_T98 l0_4 x3_1).f1) ((rd_T98 l0_4 x3_1).f2)) else (if 0 ≤ ((rd_T98 l0_4 x3_1).f0) then (if ((rd_T98 l0_4 x3_1).f0) < (l0_3.length : Int) then (spec_l12Tasks.j1 k1 x3_1 (decide (((rd_T98 l0_4 x3_1).f2) < ((rd_T61 l0_3 ((rd_T98 l0_4 x3_1).f0)).f2))) a0_0 a0_1 a0_2 l0_3 l0_4 ((rd_T98 l0_4 x3_1).f0) ((rd_T98 l0_4 x3_1).f1) ((rd_T98 l0_4 x3_1).f2)) else (none)) else (none))) else (spec_l12Tasks.j1 k1 x3_1 true a0_0 a0_1 a0_2 l0_3 l0_4 ((rd_T98 l0_4 x3_1).f0) ((rd_T98 l0_4 x3_1).f1) ((rd_T98 l0_4 x3_1).f2))) = some r := H
    have A12 := Aside0.mk A120
    clear A120
    by_cases c13 : t460 = true
    rotate_left
    ·replace c13 := Bool.eq_false_iff.mpr c13
     subst c13
     have H1 : (spec_l12Tasks.j1 k1 x3_1 true a0_0 a0_1 a0_2 l0_3 l0_4 ((rd_T98 l0_4 x3_1).f0) ((rd_T98 l0_4 x3_1).f1) ((rd_T98 l0_4 x3_1).f2)) = some r := by rw [if_neg (show ¬ (false = true) by decide)] at H; exact H
     clear H
     have H := H1
     clear H1
     have H' := Aside0.mk H
     clear H
     try go_wp2
     have n0_ : Aside0 ((((w7.setCell ⟨gb458, 0, none⟩ (.int .i64 ((rd_T98 l0_4 x3_1).f0))).setCell ⟨gb458, 1, none⟩ (.int .i64 ((rd_T98 l0_4 x3_1).f1))).setCell ⟨gb458, 2, none⟩ (.int .i64 ((rd_T98 l0_4 x3_1).f2))).heap[gb456]? = some (.cells #[.int .i64 a0_0, .int .i64 a0_1, .int .i64 a0_2, .slice A0_3 l0_3.length c0_3, .slice (some ad457) l0_4.length c0_4] 43 (0, 0))) := ⟨by (with_reducible repeat (first | refine blk_drewN ?_ _ | refine blk_drew ?_ | refine blk_alloc ?_ _)); refine blk_far ?_ NB456_458.out _; (with_reducible repeat (first | refine blk_drewN ?_ _ | refine blk_drew ?_ | refine blk_alloc ?_ _)); refine blk_far ?_ NB456_458.out _; (with_reducible repeat (first | refine blk_drewN ?_ _ | refine blk_drew ?_ | refine blk_alloc ?_ _)); refine blk_far ?_ NB456_458.out _; exact bs BK456.out⟩
     have n1_ : Aside0 ((((w7.setCell ⟨gb458, 0, none⟩ (.int .i64 ((rd_T98 l0_4 x3_1).f0))).setCell ⟨gb458, 1, none⟩ (.int .i64 ((rd_T98 l0_4 x3_1).f1))).setCell ⟨gb458, 2, none⟩ (.int .i64 ((rd_T98 l0_4 x3_1).f2))).heap[gb458]? = some (.cells #[.int .i64 ((rd_T98 l0_4 x3_1).f0), .int .i64 ((rd_T98 l0_4 x3_1).f1), .int .i64 ((rd_T98 l0_4 x3_1).f2)] 98 (0, 0))) := ⟨by (with_reducible repeat (first | refine blk_drewN ?_ _ | refine blk_drew ?_ | refine blk_alloc ?_ _)); refine blk_put (cs := #[.int .i64 ((rd_T98 l0_4 x3_1).f0), .int .i64 ((rd_T98 l0_4 x3_1).f1), .int .i64 0]) ?_ 2 _ rfl; (with_reducible repeat (first | refine blk_drewN ?_ _ | refine blk_drew ?_ | refine blk_alloc ?_ _)); refine blk_put (cs := #[.int .i64 ((rd_T98 l0_4 x3_1).f0), .int .i64 0, .int .i64 0]) ?_ 1 _ rfl; (with_reducible repeat (first | refine blk_drewN ?_ _ | refine blk_drew ?_ | refine blk_alloc ?_ _)); refine blk_put (cs := #[.int .i64 0, .int .i64 0, .int .i64 0]) ?_ 0 _ rfl; exact bs BK458.out⟩
     have n2_ : Aside0 (Below w.heap.size w (((w7.setCell ⟨gb458, 0, none⟩ (.int .i64 ((rd_T98 l0_4 x3_1).f0))).setCell ⟨gb458, 1, none⟩ (.int .i64 ((rd_T98 l0_4 x3_1).f1))).setCell ⟨gb458, 2, none⟩ (.int .i64 ((rd_T98 l0_4 x3_1).f2)))) := ⟨by repeat (first | (with_reducible first | exact bw HB.out | refine bset ?_ | apply bA | apply bN | apply bD) | exact HB.out)⟩
     (try clear BK456)
     (try clear BK458)
     (try clear HB)
     (try simp only [setCell_drewN])
     generalize (((w7.setCell ⟨gb458, 0, none⟩ (.int .i64 ((rd_T98 l0_4 x3_1).f0))).setCell ⟨gb458, 1, none⟩ (.int .i64 ((rd_T98 l0_4 x3_1).f1))).setCell ⟨gb458, 2, none⟩ (.int .i64 ((rd_T98 l0_4 x3_1).f2))) = w21 at n0_ n1_ n2_ ⊢
     have BK456 := n0_
     have BK458 := n1_
     have HB := n2_
     clear n0_ n1_ n2_
     have n0_ := Aside0.mk (blk_drew BK456.out)
     have n1_ := Aside0.mk (blk_drew BK458.out)
     have n2_ := Aside0.mk (below_drew1 HB.out)
     replace BK456 := n0_
     replace BK458 := n1_
     replace HB := n2_
     clear n0_ n1_ n2_
     refine start_ (n := 34) (S := fun w' => w'.cell? ⟨gb456, 0, none⟩ = some (.int .i64 a0_0) ∧ w'.cell? ⟨gb456, 1, none⟩ = some (.int .i64 a0_1) ∧ w'.cell? ⟨gb456, 2, none⟩ = some (.int .i64 a0_2) ∧ w'.cell? ⟨gb456, 3, none⟩ = some (.slice A0_3 l0_3.length c0_3) ∧ w'.cell? ⟨gb456, 4, none⟩ = some (.slice (some ad457) l0_4.length c0_4) ∧ w'.cell? ⟨gb458, 0, none⟩ = some (.int .i64 ((rd_T98 l0_4 x3_1).f0)) ∧ w'.cell? ⟨gb458, 1, none⟩ = some (.int .i64 ((rd_T98 l0_4 x3_1).f1)) ∧ w'.cell? ⟨gb458, 2, none⟩ = some (.int .i64 ((rd_T98 l0_4 x3_1).f2))) (ds := []) q94_0 (by kernel_rfl) rfl rfl ⟨(blk_cell BK456.out 0).trans rfl, (blk_cell BK456.out 1).trans rfl, (blk_cell BK456.out 2).trans rfl, (blk_cell BK456.out 3).trans rfl, (blk_cell BK456.out 4).trans rfl, (blk_cell BK458.out 0).trans rfl, (blk_cell BK458.out 1).trans rfl, (blk_cell BK458.out 2).trans rfl⟩ (fun hHeld => ?_); refine with_tabW spec_l12Tasks.tab5 spec_l12Tasks.bits5 (fun HT_ HW_ => ?_)
     generalize w21.drew = w22 at BK456 BK458 HB hHeld ⊢
     refine pup_ (i := 0) (N := some 19) HT_ rfl rfl (by kernel_rfl) (fun _ _ _ h => h) (Or.inl ⟨by rfl, by intro w'; go_simp; with_reducible rfl⟩) (by simp only [aq_]; rfl) ?_
     refine pup_ (i := 2) (N := some 21) HT_ rfl rfl (by kernel_rfl) (fun _ _ _ h => h) (Or.inl ⟨by rfl, by intro w'; go_simp; with_reducible rfl⟩) (by simp only [aq_]; rfl) ?_
     refine take_ (i := 1) (N := some 20) (v := ?_) (a' := ?_) q94_3 rfl rfl (take_ofW HT_.out HW_.out (by kernel_rfl)) (fun _ _ _ h => h) (Or.inl ⟨by rfl, ?_⟩) hHeld ?_ ?_
     rotate_left
     ·rintro w' ⟨s0, s1, s2, s3, s4, s5, s6, s7⟩
      go_simp
      with_reducible rfl
     rotate_left
     ·simp only [aq_]
      rfl
     refine take_ (i := 3) (N := some 22) (v := ?_) (a' := ?_) q94_4 rfl rfl (take_ofW HT_.out HW_.out (by kernel_rfl)) (fun _ _ _ h => h) (Or.inl ⟨by rfl, ?_⟩) hHeld ?_ ?_
     rotate_left
     ·rintro w' ⟨s0, s1, s2, s3, s4, s5, s6, s7⟩
      go_simp
      with_reducible rfl
     rotate_left
     ·simp only [aq_]
      rfl
     refine one_ (i := 4) (N := some 23) q94_5 rfl rfl (one_of HT_.out (by kernel_rfl)) (by decide) (fun K hK => ?_)
     refine goes_ Try.func97 (by kernel_rfl) rfl #[.slice A0_3 l0_3.length c0_3, .int .i64 ((rd_T98 l0_4 x3_1).f0)] (by rfl) rfl rfl (by (try simp only [mA_]); first | done | rfl | (simp only [List.length_drop, List.length_take]; rfl)) ?_
     with_reducible refine (spec_l3Job.calls _ _ l0_3 ((rd_T98 l0_4 x3_1).f0) true _ ?side1 ?side2 A10.out).mono ?_
     (case side1 => first | exact bC HR0_3.out HB.out | exact Kd.C_below HR0_3.out HB.out)
     (case side2 => exact HC0_3.out)
     rintro e w' ⟨rfl, ⟨nd, rfl⟩⟩
     refine ⟨_, rfl, ?_⟩
     refine hK.out _ _ ⟨(blk_cell BK456.out 0).trans rfl, (blk_cell BK456.out 1).trans rfl, (blk_cell BK456.out 2).trans rfl, (blk_cell BK456.out 3).trans rfl, (blk_cell BK456.out 4).trans rfl, (blk_cell BK458.out 0).trans rfl, (blk_cell BK458.out 1).trans rfl, (blk_cell BK458.out 2).trans rfl⟩ (fun hHeld => ?_)
     clear hK K
     refine norm_ (a' := ?_) ?_ ?_
     rotate_left
     ·show Act.put _ (some 23) _ = _
      simp only [aq_]
      rfl
     refine pup_ (i := 5) (N := some 24) HT_ rfl rfl (by kernel_rfl) (fun _ _ _ h => h) (Or.inl ⟨by rfl, by intro w'; go_simp; with_reducible rfl⟩) (by simp only [aq_]; rfl) ?_
     refine pup_ (i := 6) (N := some 25) HT_ rfl rfl (by kernel_rfl) (fun _ _ _ h => h) (Or.inl ⟨by rfl, by intro w'; go_simp; with_reducible rfl⟩) (by simp only [aq_]; rfl) ?_
     refine pup_ (i := 7) (N := some 26) HT_ rfl rfl (by kernel_rfl) (fun _ _ _ h => h) (Or.inl ⟨by rfl, by intro w'; go_simp; with_reducible rfl⟩) (by simp only [aq_]; rfl) ?_
     refine pup_ (i := 9) (N := some 28) HT_ rfl rfl (by kernel_rfl) (fun _ _ _ h => h) (Or.inl ⟨by rfl, by intro w'; go_simp; with_reducible rfl⟩) (by simp only [aq_]; rfl) ?_
     refine take_ (i := 8) (N := some 27) (v := ?_) (a' := ?_) q94_10 rfl rfl (take_ofW HT_.out HW_.out (by kernel_rfl)) (fun _ _ _ h => h) (Or.inl ⟨by rfl, ?_⟩) hHeld ?_ ?_
     rotate_left
     ·rintro w' ⟨s0, s1, s2, s3, s4, s5, s6, s7⟩
      go_simp
      with_reducible rfl
     rotate_left
     ·simp only [aq_]
      rfl
     refine take_ (i := 10) (N := some 29) (v := ?_) (a' := ?_) q94_11 rfl rfl (take_ofW HT_.out HW_.out (by kernel_rfl)) (fun _ _ _ h => h) (Or.inl ⟨by rfl, ?_⟩) hHeld ?_ ?_
     rotate_left
     ·rintro w' ⟨s0, s1, s2, s3, s4, s5, s6, s7⟩
      go_simp
      with_reducible rfl
     rotate_left
     ·simp only [aq_]
      rfl
     refine pup_ (i := 11) (N := some 30) HT_ rfl rfl (by kernel_rfl) (fun _ _ _ h => h) (Or.inl ⟨by rfl, by intro w'; go_simp; with_reducible rfl⟩) (by simp only [aq_]; rfl) ?_
     refine one_ (i := 12) (N := some 31) q94_13 rfl rfl (one_of HT_.out (by kernel_rfl)) (by decide) (fun K hK => ?_)
     refine goes_ Try.func56 (by kernel_rfl) rfl #[.int .i64 ((rd_T98 l0_4 x3_1).f1), .int .i64 0, .int .i64 (wrap64 (a0_0 - 1))] (by rfl) rfl rfl (by (try simp only [mA_]); first | done | rfl | (simp only [List.length_drop, List.length_take]; rfl)) ?_
     with_reducible refine (spec_l1In.calls ((rd_T98 l0_4 x3_1).f1) 0 (wrap64 (a0_0 - 1)) false _ A12.out).mono ?_
     rintro e w' ⟨rfl, ⟨nd, rfl⟩⟩
     refine ⟨_, rfl, ?_⟩
     refine hK.out _ _ ⟨(blk_cell BK456.out 0).trans rfl, (blk_cell BK456.out 1).trans rfl, (blk_cell BK456.out 2).trans rfl, (blk_cell BK456.out 3).trans rfl, (blk_cell BK456.out 4).trans rfl, (blk_cell BK458.out 0).trans rfl, (blk_cell BK458.out 1).trans rfl, (blk_cell BK458.out 2).trans rfl⟩ (fun hHeld => ?_)
     clear hK K
     refine norm_ (a' := ?_) ?_ ?_
     rotate_left
     ·show Act.put _ (some 31) _ = _
      simp only [aq_]
      rfl
     refine pup_ (i := 13) (N := some 32) HT_ rfl rfl (by kernel_rfl) (fun _ _ _ h => h) (Or.inl ⟨by rfl, by intro w'; go_simp; with_reducible rfl⟩) (by simp only [aq_]; rfl) ?_
     refine pup_ (i := 14) (N := some 33) HT_ rfl rfl (by kernel_rfl) (fun _ _ _ h => h) (Or.inl ⟨by rfl, by intro w'; go_simp; with_reducible rfl⟩) (by simp only [aq_]; rfl) ?_
     refine pup_ (i := 15) (N := some 34) HT_ rfl rfl (by kernel_rfl) (fun _ _ _ h => h) (Or.inl ⟨by rfl, by intro w'; go_simp; with_reducible rfl⟩) (by simp only [aq_]; rfl) ?_
     refine skp_ HT_ 16 (some 35) rfl rfl (by kernel_rfl) (fun _ _ _ h => h) (by rfl) (by simp only [aq_]; rfl) ?_
     refine skp_ HT_ 17 (some 36) rfl rfl (by kernel_rfl) (fun _ _ _ h => h) (by rfl) (by simp only [aq_]; rfl) ?_
     refine skp_ HT_ 18 (some 37) rfl rfl (by kernel_rfl) (fun _ _ _ h => h) (by rfl) (by simp only [aq_]; rfl) ?_
     refine skp_ HT_ 19 (some 38) rfl rfl (by kernel_rfl) (fun _ _ _ h => h) (by rfl) (by simp only [aq_]; rfl) ?_
     refine skp_ HT_ 20 (some 39) rfl rfl (by kernel_rfl) (fun _ _ _ h => h) (by rfl) (by simp only [aq_]; rfl) ?_
     refine pup_ (i := 21) (N := some 40) HT_ rfl rfl (by kernel_rfl) (fun _ _ _ h => h) (Or.inl ⟨by rfl, by intro w'; go_simp; with_reducible rfl⟩) (by simp only [aq_]; rfl) ?_
     refine pup_ (i := 22) (N := some 41) HT_ rfl rfl (by kernel_rfl) (fun _ _ _ h => h) (Or.inl ⟨by rfl, by intro w'; go_simp; with_reducible rfl⟩) (by simp only [aq_]; rfl) ?_
     refine skp_ HT_ 23 (some 42) rfl rfl (by kernel_rfl) (fun _ _ _ h => h) (by rfl) (by simp only [aq_]; rfl) ?_
     refine skp_ HT_ 24 (some 43) rfl rfl (by kernel_rfl) (fun _ _ _ h => h) (by rfl) (by simp only [aq_]; rfl) ?_
     refine skp_ HT_ 25 (some 44) rfl rfl (by kernel_rfl) (fun _ _ _ h => h) (by rfl) (by simp only [aq_]; rfl) ?_
     refine skp_ HT_ 26 (some 45) rfl rfl (by kernel_rfl) (fun _ _ _ h => h) (by rfl) (by simp only [aq_]; rfl) ?_
     refine skp_ HT_ 27 (some 46) rfl rfl (by kernel_rfl) (fun _ _ _ h => h) (by rfl) (by simp only [aq_]; rfl) ?_
     refine skp_ HT_ 28 (some 47) rfl rfl (by kernel_rfl) (fun _ _ _ h => h) (by rfl) (by simp only [aq_]; rfl) ?_
     refine skp_ HT_ 29 (some 48) rfl rfl (by kernel_rfl) (fun _ _ _ h => h) (by rfl) (by simp only [aq_]; rfl) ?_
     refine skp_ HT_ 30 (some 49) rfl rfl (by kernel_rfl) (fun _ _ _ h => h) (by rfl) (by simp only [aq_]; rfl) ?_
     refine skp_ HT_ 31 (some 50) rfl rfl (by kernel_rfl) (fun _ _ _ h => h) (by rfl) (by simp only [aq_]; rfl) ?_
     refine skp_ HT_ 32 (some 51) rfl rfl (by kernel_rfl) (fun _ _ _ h => h) (by rfl) (by simp only [aq_]; rfl) ?_
     refine pup_ (i := 33) (N := some 52) HT_ rfl rfl (by kernel_rfl) (fun _ _ _ h => h) (Or.inl ⟨by rfl, by intro w'; go_simp; with_reducible rfl⟩) (by simp only [aq_]; rfl) ?_
     refine done_ (done_of HT_.out (by kernel_rfl)) ?_
     try go_wp2
     go_meet
     case rel => exact ⟨_, (true), (by first | rfl | (simp; done) | (simp [*]; done)), H', ⟨by have := HK1.out; first | omega | exact Nat.le_refl _⟩, ⟨bs BK456.out⟩, ⟨bs BK458.out⟩, ⟨by repeat (first | (with_reducible first | exact bw HB.out | refine bset ?_ | apply bA | apply bN | apply bD) | exact HB.out)⟩⟩
    subst c13
    have H1 : (if ((rd_T98 l0_4 x3_1).f2) ≥ a0_2 then (spec_l12Tasks.j1 k1 x3_1 true a0_0 a0_1 a0_2 l0_3 l0_4 ((rd_T98 l0_4 x3_1).f0) ((rd_T98 l0_4 x3_1).f1) ((rd_T98 l0_4 x3_1).f2)) else (if 0 ≤ ((rd_T98 l0_4 x3_1).f0) then (if ((rd_T98 l0_4 x3_1).f0) < (l0_3.length : Int) then (spec_l12Tasks.j1 k1 x3_1 (decide (((rd_T98 l0_4 x3_1).f2) < ((rd_T61 l0_3 ((rd_T98 l0_4 x3_1).f0)).f2))) a0_0 a0_1 a0_2 l0_3 l0_4 ((rd_T98 l0_4 x3_1).f0) ((rd_T98 l0_4 x3_1).f1) ((rd_T98 l0_4 x3_1).f2)) else (none)) else (none))) = some r := by rw [if_pos rfl] at H; exact H
    clear H
    have H := H1
    clear H1
    by_cases c14 : ((rd_T98 l0_4 x3_1).f2) ≥ a0_2
    ·rw [if_pos c14] at H
     have c14b0 : decide (a0_2 ≤ ((rd_T98 l0_4 x3_1).f2)) = true := decide_eq_true c14
     clear c14
     (first | rw [c14b0] | (simp only [i64_w, i32_w]; rw [c14b0]) | skip)
     have H' := Aside0.mk H
     clear H
     try go_wp2
     have n0_ : Aside0 ((((w7.setCell ⟨gb458, 0, none⟩ (.int .i64 ((rd_T98 l0_4 x3_1).f0))).setCell ⟨gb458, 1, none⟩ (.int .i64 ((rd_T98 l0_4 x3_1).f1))).setCell ⟨gb458, 2, none⟩ (.int .i64 ((rd_T98 l0_4 x3_1).f2))).heap[gb456]? = some (.cells #[.int .i64 a0_0, .int .i64 a0_1, .int .i64 a0_2, .slice A0_3 l0_3.length c0_3, .slice (some ad457) l0_4.length c0_4] 43 (0, 0))) := ⟨by (with_reducible repeat (first | refine blk_drewN ?_ _ | refine blk_drew ?_ | refine blk_alloc ?_ _)); refine blk_far ?_ NB456_458.out _; (with_reducible repeat (first | refine blk_drewN ?_ _ | refine blk_drew ?_ | refine blk_alloc ?_ _)); refine blk_far ?_ NB456_458.out _; (with_reducible repeat (first | refine blk_drewN ?_ _ | refine blk_drew ?_ | refine blk_alloc ?_ _)); refine blk_far ?_ NB456_458.out _; exact bs BK456.out⟩
     have n1_ : Aside0 ((((w7.setCell ⟨gb458, 0, none⟩ (.int .i64 ((rd_T98 l0_4 x3_1).f0))).setCell ⟨gb458, 1, none⟩ (.int .i64 ((rd_T98 l0_4 x3_1).f1))).setCell ⟨gb458, 2, none⟩ (.int .i64 ((rd_T98 l0_4 x3_1).f2))).heap[gb458]? = some (.cells #[.int .i64 ((rd_T98 l0_4 x3_1).f0), .int .i64 ((rd_T98 l0_4 x3_1).f1), .int .i64 ((rd_T98 l0_4 x3_1).f2)] 98 (0, 0))) := ⟨by (with_reducible repeat (first | refine blk_drewN ?_ _ | refine blk_drew ?_ | refine blk_alloc ?_ _)); refine blk_put (cs := #[.int .i64 ((rd_T98 l0_4 x3_1).f0), .int .i64 ((rd_T98 l0_4 x3_1).f1), .int .i64 0]) ?_ 2 _ rfl; (with_reducible repeat (first | refine blk_drewN ?_ _ | refine blk_drew ?_ | refine blk_alloc ?_ _)); refine blk_put (cs := #[.int .i64 ((rd_T98 l0_4 x3_1).f0), .int .i64 0, .int .i64 0]) ?_ 1 _ rfl; (with_reducible repeat (first | refine blk_drewN ?_ _ | refine blk_drew ?_ | refine blk_alloc ?_ _)); refine blk_put (cs := #[.int .i64 0, .int .i64 0, .int .i64 0]) ?_ 0 _ rfl; exact bs BK458.out⟩
     have n2_ : Aside0 (Below w.heap.size w (((w7.setCell ⟨gb458, 0, none⟩ (.int .i64 ((rd_T98 l0_4 x3_1).f0))).setCell ⟨gb458, 1, none⟩ (.int .i64 ((rd_T98 l0_4 x3_1).f1))).setCell ⟨gb458, 2, none⟩ (.int .i64 ((rd_T98 l0_4 x3_1).f2)))) := ⟨by repeat (first | (with_reducible first | exact bw HB.out | refine bset ?_ | apply bA | apply bN | apply bD) | exact HB.out)⟩
     (try clear BK456)
     (try clear BK458)
     (try clear HB)
     (try simp only [setCell_drewN])
     generalize (((w7.setCell ⟨gb458, 0, none⟩ (.int .i64 ((rd_T98 l0_4 x3_1).f0))).setCell ⟨gb458, 1, none⟩ (.int .i64 ((rd_T98 l0_4 x3_1).f1))).setCell ⟨gb458, 2, none⟩ (.int .i64 ((rd_T98 l0_4 x3_1).f2))) = w15 at n0_ n1_ n2_ ⊢
     have BK456 := n0_
     have BK458 := n1_
     have HB := n2_
     clear n0_ n1_ n2_
     have n0_ := Aside0.mk (blk_drew BK456.out)
     have n1_ := Aside0.mk (blk_drew BK458.out)
     have n2_ := Aside0.mk (below_drew1 HB.out)
     replace BK456 := n0_
     replace BK458 := n1_
     replace HB := n2_
     clear n0_ n1_ n2_
     refine start_ (n := 34) (S := fun w' => w'.cell? ⟨gb456, 0, none⟩ = some (.int .i64 a0_0) ∧ w'.cell? ⟨gb456, 1, none⟩ = some (.int .i64 a0_1) ∧ w'.cell? ⟨gb456, 2, none⟩ = some (.int .i64 a0_2) ∧ w'.cell? ⟨gb456, 3, none⟩ = some (.slice A0_3 l0_3.length c0_3) ∧ w'.cell? ⟨gb456, 4, none⟩ = some (.slice (some ad457) l0_4.length c0_4) ∧ w'.cell? ⟨gb458, 0, none⟩ = some (.int .i64 ((rd_T98 l0_4 x3_1).f0)) ∧ w'.cell? ⟨gb458, 1, none⟩ = some (.int .i64 ((rd_T98 l0_4 x3_1).f1)) ∧ w'.cell? ⟨gb458, 2, none⟩ = some (.int .i64 ((rd_T98 l0_4 x3_1).f2))) (ds := []) q94_0 (by kernel_rfl) rfl rfl ⟨(blk_cell BK456.out 0).trans rfl, (blk_cell BK456.out 1).trans rfl, (blk_cell BK456.out 2).trans rfl, (blk_cell BK456.out 3).trans rfl, (blk_cell BK456.out 4).trans rfl, (blk_cell BK458.out 0).trans rfl, (blk_cell BK458.out 1).trans rfl, (blk_cell BK458.out 2).trans rfl⟩ (fun hHeld => ?_); refine with_tabW spec_l12Tasks.tab5 spec_l12Tasks.bits5 (fun HT_ HW_ => ?_)
     generalize w15.drew = w16 at BK456 BK458 HB hHeld ⊢
     refine pup_ (i := 0) (N := some 19) HT_ rfl rfl (by kernel_rfl) (fun _ _ _ h => h) (Or.inl ⟨by rfl, by intro w'; go_simp; with_reducible rfl⟩) (by simp only [aq_]; rfl) ?_
     refine pup_ (i := 2) (N := some 21) HT_ rfl rfl (by kernel_rfl) (fun _ _ _ h => h) (Or.inl ⟨by rfl, by intro w'; go_simp; with_reducible rfl⟩) (by simp only [aq_]; rfl) ?_
     refine take_ (i := 1) (N := some 20) (v := ?_) (a' := ?_) q94_3 rfl rfl (take_ofW HT_.out HW_.out (by kernel_rfl)) (fun _ _ _ h => h) (Or.inl ⟨by rfl, ?_⟩) hHeld ?_ ?_
     rotate_left
     ·rintro w' ⟨s0, s1, s2, s3, s4, s5, s6, s7⟩
      go_simp
      with_reducible rfl
     rotate_left
     ·simp only [aq_]
      rfl
     refine take_ (i := 3) (N := some 22) (v := ?_) (a' := ?_) q94_4 rfl rfl (take_ofW HT_.out HW_.out (by kernel_rfl)) (fun _ _ _ h => h) (Or.inl ⟨by rfl, ?_⟩) hHeld ?_ ?_
     rotate_left
     ·rintro w' ⟨s0, s1, s2, s3, s4, s5, s6, s7⟩
      go_simp
      with_reducible rfl
     rotate_left
     ·simp only [aq_]
      rfl
     refine one_ (i := 4) (N := some 23) q94_5 rfl rfl (one_of HT_.out (by kernel_rfl)) (by decide) (fun K hK => ?_)
     refine goes_ Try.func97 (by kernel_rfl) rfl #[.slice A0_3 l0_3.length c0_3, .int .i64 ((rd_T98 l0_4 x3_1).f0)] (by rfl) rfl rfl (by (try simp only [mA_]); first | done | rfl | (simp only [List.length_drop, List.length_take]; rfl)) ?_
     with_reducible refine (spec_l3Job.calls _ _ l0_3 ((rd_T98 l0_4 x3_1).f0) true _ ?side1 ?side2 A10.out).mono ?_
     (case side1 => first | exact bC HR0_3.out HB.out | exact Kd.C_below HR0_3.out HB.out)
     (case side2 => exact HC0_3.out)
     rintro e w' ⟨rfl, ⟨nd, rfl⟩⟩
     refine ⟨_, rfl, ?_⟩
     refine hK.out _ _ ⟨(blk_cell BK456.out 0).trans rfl, (blk_cell BK456.out 1).trans rfl, (blk_cell BK456.out 2).trans rfl, (blk_cell BK456.out 3).trans rfl, (blk_cell BK456.out 4).trans rfl, (blk_cell BK458.out 0).trans rfl, (blk_cell BK458.out 1).trans rfl, (blk_cell BK458.out 2).trans rfl⟩ (fun hHeld => ?_)
     clear hK K
     refine norm_ (a' := ?_) ?_ ?_
     rotate_left
     ·show Act.put _ (some 23) _ = _
      simp only [aq_]
      rfl
     refine pup_ (i := 5) (N := some 24) HT_ rfl rfl (by kernel_rfl) (fun _ _ _ h => h) (Or.inl ⟨by rfl, by intro w'; go_simp; with_reducible rfl⟩) (by simp only [aq_]; rfl) ?_
     refine pup_ (i := 6) (N := some 25) HT_ rfl rfl (by kernel_rfl) (fun _ _ _ h => h) (Or.inl ⟨by rfl, by intro w'; go_simp; with_reducible rfl⟩) (by simp only [aq_]; rfl) ?_
     refine pup_ (i := 7) (N := some 26) HT_ rfl rfl (by kernel_rfl) (fun _ _ _ h => h) (Or.inl ⟨by rfl, by intro w'; go_simp; with_reducible rfl⟩) (by simp only [aq_]; rfl) ?_
     refine pup_ (i := 9) (N := some 28) HT_ rfl rfl (by kernel_rfl) (fun _ _ _ h => h) (Or.inl ⟨by rfl, by intro w'; go_simp; with_reducible rfl⟩) (by simp only [aq_]; rfl) ?_
     refine take_ (i := 8) (N := some 27) (v := ?_) (a' := ?_) q94_10 rfl rfl (take_ofW HT_.out HW_.out (by kernel_rfl)) (fun _ _ _ h => h) (Or.inl ⟨by rfl, ?_⟩) hHeld ?_ ?_
     rotate_left
     ·rintro w' ⟨s0, s1, s2, s3, s4, s5, s6, s7⟩
      go_simp
      with_reducible rfl
     rotate_left
     ·simp only [aq_]
      rfl
     refine take_ (i := 10) (N := some 29) (v := ?_) (a' := ?_) q94_11 rfl rfl (take_ofW HT_.out HW_.out (by kernel_rfl)) (fun _ _ _ h => h) (Or.inl ⟨by rfl, ?_⟩) hHeld ?_ ?_
     rotate_left
     ·rintro w' ⟨s0, s1, s2, s3, s4, s5, s6, s7⟩
      go_simp
      with_reducible rfl
     rotate_left
     ·simp only [aq_]
      rfl
     refine pup_ (i := 11) (N := some 30) HT_ rfl rfl (by kernel_rfl) (fun _ _ _ h => h) (Or.inl ⟨by rfl, by intro w'; go_simp; with_reducible rfl⟩) (by simp only [aq_]; rfl) ?_
     refine one_ (i := 12) (N := some 31) q94_13 rfl rfl (one_of HT_.out (by kernel_rfl)) (by decide) (fun K hK => ?_)
     refine goes_ Try.func56 (by kernel_rfl) rfl #[.int .i64 ((rd_T98 l0_4 x3_1).f1), .int .i64 0, .int .i64 (wrap64 (a0_0 - 1))] (by rfl) rfl rfl (by (try simp only [mA_]); first | done | rfl | (simp only [List.length_drop, List.length_take]; rfl)) ?_
     with_reducible refine (spec_l1In.calls ((rd_T98 l0_4 x3_1).f1) 0 (wrap64 (a0_0 - 1)) true _ A12.out).mono ?_
     rintro e w' ⟨rfl, ⟨nd, rfl⟩⟩
     refine ⟨_, rfl, ?_⟩
     refine hK.out _ _ ⟨(blk_cell BK456.out 0).trans rfl, (blk_cell BK456.out 1).trans rfl, (blk_cell BK456.out 2).trans rfl, (blk_cell BK456.out 3).trans rfl, (blk_cell BK456.out 4).trans rfl, (blk_cell BK458.out 0).trans rfl, (blk_cell BK458.out 1).trans rfl, (blk_cell BK458.out 2).trans rfl⟩ (fun hHeld => ?_)
     clear hK K
     refine norm_ (a' := ?_) ?_ ?_
     rotate_left
     ·show Act.put _ (some 31) _ = _
      simp only [aq_]
      rfl
     refine pup_ (i := 13) (N := some 32) HT_ rfl rfl (by kernel_rfl) (fun _ _ _ h => h) (Or.inl ⟨by rfl, by intro w'; go_simp; with_reducible rfl⟩) (by simp only [aq_]; rfl) ?_
     refine pup_ (i := 14) (N := some 33) HT_ rfl rfl (by kernel_rfl) (fun _ _ _ h => h) (Or.inl ⟨by rfl, by intro w'; go_simp; with_reducible rfl⟩) (by simp only [aq_]; rfl) ?_
     refine pup_ (i := 15) (N := some 34) HT_ rfl rfl (by kernel_rfl) (fun _ _ _ h => h) (Or.inl ⟨by rfl, by intro w'; go_simp; with_reducible rfl⟩) (by simp only [aq_]; rfl) ?_
     refine pup_ (i := 16) (N := some 35) HT_ rfl rfl (by kernel_rfl) (fun _ _ _ h => h) (Or.inl ⟨by rfl, by intro w'; go_simp; with_reducible rfl⟩) (by simp only [aq_]; rfl) ?_
     refine pup_ (i := 18) (N := some 37) HT_ rfl rfl (by kernel_rfl) (fun _ _ _ h => h) (Or.inl ⟨by rfl, by intro w'; go_simp; with_reducible rfl⟩) (by simp only [aq_]; rfl) ?_
     refine take_ (i := 17) (N := some 36) (v := ?_) (a' := ?_) q94_19 rfl rfl (take_ofW HT_.out HW_.out (by kernel_rfl)) (fun _ _ _ h => h) (Or.inl ⟨by rfl, ?_⟩) hHeld ?_ ?_
     rotate_left
     ·rintro w' ⟨s0, s1, s2, s3, s4, s5, s6, s7⟩
      go_simp
      with_reducible rfl
     rotate_left
     ·simp only [aq_]
      rfl
     refine take_ (i := 19) (N := some 38) (v := ?_) (a' := ?_) q94_20 rfl rfl (take_ofW HT_.out HW_.out (by kernel_rfl)) (fun _ _ _ h => h) (Or.inl ⟨by rfl, ?_⟩) hHeld ?_ ?_
     rotate_left
     ·rintro w' ⟨s0, s1, s2, s3, s4, s5, s6, s7⟩
      go_simp
      with_reducible rfl
     rotate_left
     ·simp only [aq_]
      rfl
     refine pup_ (i := 20) (N := some 39) HT_ rfl rfl (by kernel_rfl) (fun _ _ _ h => h) (Or.inl ⟨by rfl, by intro w'; go_simp; with_reducible rfl⟩) (by simp only [aq_]; rfl) ?_
     refine pup_ (i := 21) (N := some 40) HT_ rfl rfl (by kernel_rfl) (fun _ _ _ h => h) (Or.inl ⟨by rfl, by intro w'; go_simp; with_reducible rfl⟩) (by simp only [aq_]; rfl) ?_
     refine pup_ (i := 22) (N := some 41) HT_ rfl rfl (by kernel_rfl) (fun _ _ _ h => h) (Or.inl ⟨by rfl, by intro w'; go_simp; with_reducible rfl⟩) (by simp only [aq_]; rfl) ?_
     refine skp_ HT_ 23 (some 42) rfl rfl (by kernel_rfl) (fun _ _ _ h => h) (by rfl) (by simp only [aq_]; rfl) ?_
     refine skp_ HT_ 24 (some 43) rfl rfl (by kernel_rfl) (fun _ _ _ h => h) (by rfl) (by simp only [aq_]; rfl) ?_
     refine skp_ HT_ 25 (some 44) rfl rfl (by kernel_rfl) (fun _ _ _ h => h) (by rfl) (by simp only [aq_]; rfl) ?_
     refine skp_ HT_ 26 (some 45) rfl rfl (by kernel_rfl) (fun _ _ _ h => h) (by rfl) (by simp only [aq_]; rfl) ?_
     refine skp_ HT_ 27 (some 46) rfl rfl (by kernel_rfl) (fun _ _ _ h => h) (by rfl) (by simp only [aq_]; rfl) ?_
     refine skp_ HT_ 28 (some 47) rfl rfl (by kernel_rfl) (fun _ _ _ h => h) (by rfl) (by simp only [aq_]; rfl) ?_
     refine skp_ HT_ 29 (some 48) rfl rfl (by kernel_rfl) (fun _ _ _ h => h) (by rfl) (by simp only [aq_]; rfl) ?_
     refine skp_ HT_ 30 (some 49) rfl rfl (by kernel_rfl) (fun _ _ _ h => h) (by rfl) (by simp only [aq_]; rfl) ?_
     refine skp_ HT_ 31 (some 50) rfl rfl (by kernel_rfl) (fun _ _ _ h => h) (by rfl) (by simp only [aq_]; rfl) ?_
     refine skp_ HT_ 32 (some 51) rfl rfl (by kernel_rfl) (fun _ _ _ h => h) (by rfl) (by simp only [aq_]; rfl) ?_
     refine pup_ (i := 33) (N := some 52) HT_ rfl rfl (by kernel_rfl) (fun _ _ _ h => h) (Or.inl ⟨by rfl, by intro w'; go_simp; with_reducible rfl⟩) (by simp only [aq_]; rfl) ?_
     refine done_ (done_of HT_.out (by kernel_rfl)) ?_
     try go_wp2
     go_meet
     case rel => exact ⟨_, (true), (by first | rfl | (simp; done) | (simp [*]; done)), H', ⟨by have := HK1.out; first | omega | exact Nat.le_refl _⟩, ⟨bs BK456.out⟩, ⟨bs BK458.out⟩, ⟨by repeat (first | (with_reducible first | exact bw HB.out | refine bset ?_ | apply bA | apply bN | apply bD) | exact HB.out)⟩⟩
    rw [if_neg c14] at H
    have c14b0 : decide (a0_2 ≤ ((rd_T98 l0_4 x3_1).f2)) = false := decide_eq_false c14
    clear c14
    (first | rw [c14b0] | (simp only [i64_w, i32_w]; rw [c14b0]) | skip)
    by_cases c17 : 0 ≤ ((rd_T98 l0_4 x3_1).f0)
    rotate_left
    ·rw [if_neg c17] at H
     exact absurd H (by simp)
    rw [if_pos c17] at H
    have c17b0 : decide (0 ≤ ((rd_T98 l0_4 x3_1).f0)) = true := decide_eq_true c17
    clear c17
    by_cases c18 : ((rd_T98 l0_4 x3_1).f0) < (l0_3.length : Int)
    rotate_left
    ·rw [if_neg c18] at H
     exact absurd H (by simp)
    rw [if_pos c18] at H
    have c18b0 : decide (((rd_T98 l0_4 x3_1).f0) < (l0_3.length : Int)) = true := decide_eq_true c18
    clear c18
    have H' := Aside0.mk H
    clear H
    try go_wp2
    have n0_ : Aside0 ((((w7.setCell ⟨gb458, 0, none⟩ (.int .i64 ((rd_T98 l0_4 x3_1).f0))).setCell ⟨gb458, 1, none⟩ (.int .i64 ((rd_T98 l0_4 x3_1).f1))).setCell ⟨gb458, 2, none⟩ (.int .i64 ((rd_T98 l0_4 x3_1).f2))).heap[gb456]? = some (.cells #[.int .i64 a0_0, .int .i64 a0_1, .int .i64 a0_2, .slice A0_3 l0_3.length c0_3, .slice (some ad457) l0_4.length c0_4] 43 (0, 0))) := ⟨by (with_reducible repeat (first | refine blk_drewN ?_ _ | refine blk_drew ?_ | refine blk_alloc ?_ _)); refine blk_far ?_ NB456_458.out _; (with_reducible repeat (first | refine blk_drewN ?_ _ | refine blk_drew ?_ | refine blk_alloc ?_ _)); refine blk_far ?_ NB456_458.out _; (with_reducible repeat (first | refine blk_drewN ?_ _ | refine blk_drew ?_ | refine blk_alloc ?_ _)); refine blk_far ?_ NB456_458.out _; exact bs BK456.out⟩
    have n1_ : Aside0 ((((w7.setCell ⟨gb458, 0, none⟩ (.int .i64 ((rd_T98 l0_4 x3_1).f0))).setCell ⟨gb458, 1, none⟩ (.int .i64 ((rd_T98 l0_4 x3_1).f1))).setCell ⟨gb458, 2, none⟩ (.int .i64 ((rd_T98 l0_4 x3_1).f2))).heap[gb458]? = some (.cells #[.int .i64 ((rd_T98 l0_4 x3_1).f0), .int .i64 ((rd_T98 l0_4 x3_1).f1), .int .i64 ((rd_T98 l0_4 x3_1).f2)] 98 (0, 0))) := ⟨by (with_reducible repeat (first | refine blk_drewN ?_ _ | refine blk_drew ?_ | refine blk_alloc ?_ _)); refine blk_put (cs := #[.int .i64 ((rd_T98 l0_4 x3_1).f0), .int .i64 ((rd_T98 l0_4 x3_1).f1), .int .i64 0]) ?_ 2 _ rfl; (with_reducible repeat (first | refine blk_drewN ?_ _ | refine blk_drew ?_ | refine blk_alloc ?_ _)); refine blk_put (cs := #[.int .i64 ((rd_T98 l0_4 x3_1).f0), .int .i64 0, .int .i64 0]) ?_ 1 _ rfl; (with_reducible repeat (first | refine blk_drewN ?_ _ | refine blk_drew ?_ | refine blk_alloc ?_ _)); refine blk_put (cs := #[.int .i64 0, .int .i64 0, .int .i64 0]) ?_ 0 _ rfl; exact bs BK458.out⟩
    have n2_ : Aside0 (Below w.heap.size w (((w7.setCell ⟨gb458, 0, none⟩ (.int .i64 ((rd_T98 l0_4 x3_1).f0))).setCell ⟨gb458, 1, none⟩ (.int .i64 ((rd_T98 l0_4 x3_1).f1))).setCell ⟨gb458, 2, none⟩ (.int .i64 ((rd_T98 l0_4 x3_1).f2)))) := ⟨by repeat (first | (with_reducible first | exact bw HB.out | refine bset ?_ | apply bA | apply bN | apply bD) | exact HB.out)⟩
    (try clear BK456)
    (try clear BK458)
    (try clear HB)
    (try simp only [setCell_drewN])
    generalize (((w7.setCell ⟨gb458, 0, none⟩ (.int .i64 ((rd_T98 l0_4 x3_1).f0))).setCell ⟨gb458, 1, none⟩ (.int .i64 ((rd_T98 l0_4 x3_1).f1))).setCell ⟨gb458, 2, none⟩ (.int .i64 ((rd_T98 l0_4 x3_1).f2))) = w19 at n0_ n1_ n2_ ⊢
    have BK456 := n0_
    have BK458 := n1_
    have HB := n2_
    clear n0_ n1_ n2_
    have n0_ := Aside0.mk (blk_drew BK456.out)
    have n1_ := Aside0.mk (blk_drew BK458.out)
    have n2_ := Aside0.mk (below_drew1 HB.out)
    replace BK456 := n0_
    replace BK458 := n1_
    replace HB := n2_
    clear n0_ n1_ n2_
    have p461 : 0 ≤ (((rd_T98 l0_4 x3_1).f0) : Int) := of_decide_eq_true (by first | (with_reducible assumption) | assumption)
    have q461 : ((rd_T98 l0_4 x3_1).f0) < (l0_3.length : Int) := of_decide_eq_true (by first | (with_reducible assumption) | assumption)
    obtain ⟨ad461, e461, hx461_0, hx461_1, hx461_2, hx461_3⟩ := at_T61 HR0_3.out ((rd_T98 l0_4 x3_1).f0) p461 q461
    have hw461_3 := hx461_3
    have hw461_2 := hx461_2
    have hw461_1 := hx461_1
    have hw461_0 := hx461_0
    cases e461
    replace hx461_0 := (HB.out.cell (World.block_lt_of_cell? w _ hx461_0)).trans hx461_0
    replace hx461_1 := (HB.out.cell (World.block_lt_of_cell? w _ hx461_1)).trans hx461_1
    replace hx461_2 := (HB.out.cell (World.block_lt_of_cell? w _ hx461_2)).trans hx461_2
    replace hx461_3 := (HB.out.cell (World.block_lt_of_cell? w _ hx461_3)).trans hx461_3
    replace p461 := eq_true p461
    replace q461 := eq_true q461
    refine start_ (n := 34) (S := fun w' => w'.cell? ⟨gb456, 0, none⟩ = some (.int .i64 a0_0) ∧ w'.cell? ⟨gb456, 1, none⟩ = some (.int .i64 a0_1) ∧ w'.cell? ⟨gb456, 2, none⟩ = some (.int .i64 a0_2) ∧ w'.cell? ⟨gb456, 3, none⟩ = some (.slice (some ad461) l0_3.length c0_3) ∧ w'.cell? ⟨gb456, 4, none⟩ = some (.slice (some ad457) l0_4.length c0_4) ∧ w'.cell? ⟨gb458, 0, none⟩ = some (.int .i64 ((rd_T98 l0_4 x3_1).f0)) ∧ w'.cell? ⟨gb458, 1, none⟩ = some (.int .i64 ((rd_T98 l0_4 x3_1).f1)) ∧ w'.cell? ⟨gb458, 2, none⟩ = some (.int .i64 ((rd_T98 l0_4 x3_1).f2)) ∧ w'.cell? (ad461.add ((((rd_T98 l0_4 x3_1).f0)).toNat * 4)) = some (.int .i64 ((rd_T61 l0_3 ((rd_T98 l0_4 x3_1).f0)).f0)) ∧ w'.cell? ⟨(ad461.add ((((rd_T98 l0_4 x3_1).f0)).toNat * 4)).block, (ad461.add ((((rd_T98 l0_4 x3_1).f0)).toNat * 4)).off + 1, none⟩ = some (.int .i64 ((rd_T61 l0_3 ((rd_T98 l0_4 x3_1).f0)).f1)) ∧ w'.cell? ⟨(ad461.add ((((rd_T98 l0_4 x3_1).f0)).toNat * 4)).block, (ad461.add ((((rd_T98 l0_4 x3_1).f0)).toNat * 4)).off + 2, none⟩ = some (.int .i64 ((rd_T61 l0_3 ((rd_T98 l0_4 x3_1).f0)).f2)) ∧ w'.cell? ⟨(ad461.add ((((rd_T98 l0_4 x3_1).f0)).toNat * 4)).block, (ad461.add ((((rd_T98 l0_4 x3_1).f0)).toNat * 4)).off + 3, none⟩ = some (.int .i64 ((rd_T61 l0_3 ((rd_T98 l0_4 x3_1).f0)).f3))) (ds := []) q94_0 (by kernel_rfl) rfl rfl ⟨(blk_cell BK456.out 0).trans rfl, (blk_cell BK456.out 1).trans rfl, (blk_cell BK456.out 2).trans rfl, (blk_cell BK456.out 3).trans rfl, (blk_cell BK456.out 4).trans rfl, (blk_cell BK458.out 0).trans rfl, (blk_cell BK458.out 1).trans rfl, (blk_cell BK458.out 2).trans rfl, (bcl_ HB.out hw461_0 :), (bcl_ HB.out hw461_1 :), (bcl_ HB.out hw461_2 :), (bcl_ HB.out hw461_3 :)⟩ (fun hHeld => ?_); refine with_tabW spec_l12Tasks.tab5 spec_l12Tasks.bits5 (fun HT_ HW_ => ?_)
    generalize w19.drew = w20 at BK456 BK458 HB hx461_0 hx461_1 hx461_2 hx461_3 hHeld ⊢
    refine pup_ (i := 0) (N := some 19) HT_ rfl rfl (by kernel_rfl) (fun _ _ _ h => h) (Or.inl ⟨by rfl, by intro w'; go_simp; with_reducible rfl⟩) (by simp only [aq_]; rfl) ?_
    refine pup_ (i := 2) (N := some 21) HT_ rfl rfl (by kernel_rfl) (fun _ _ _ h => h) (Or.inl ⟨by rfl, by intro w'; go_simp; with_reducible rfl⟩) (by simp only [aq_]; rfl) ?_
    refine take_ (i := 1) (N := some 20) (v := ?_) (a' := ?_) q94_3 rfl rfl (take_ofW HT_.out HW_.out (by kernel_rfl)) (fun _ _ _ h => h) (Or.inl ⟨by rfl, ?_⟩) hHeld ?_ ?_
    rotate_left
    ·rintro w' ⟨s0, s1, s2, s3, s4, s5, s6, s7, s8, s9, s10, s11⟩
     go_simp
     with_reducible rfl
    rotate_left
    ·simp only [aq_]
     rfl
    refine take_ (i := 3) (N := some 22) (v := ?_) (a' := ?_) q94_4 rfl rfl (take_ofW HT_.out HW_.out (by kernel_rfl)) (fun _ _ _ h => h) (Or.inl ⟨by rfl, ?_⟩) hHeld ?_ ?_
    rotate_left
    ·rintro w' ⟨s0, s1, s2, s3, s4, s5, s6, s7, s8, s9, s10, s11⟩
     go_simp
     with_reducible rfl
    rotate_left
    ·simp only [aq_]
     rfl
    refine one_ (i := 4) (N := some 23) q94_5 rfl rfl (one_of HT_.out (by kernel_rfl)) (by decide) (fun K hK => ?_)
    refine goes_ Try.func97 (by kernel_rfl) rfl #[.slice (some ad461) l0_3.length c0_3, .int .i64 ((rd_T98 l0_4 x3_1).f0)] (by rfl) rfl rfl (by (try simp only [mA_]); first | done | rfl | (simp only [List.length_drop, List.length_take]; rfl)) ?_
    with_reducible refine (spec_l3Job.calls _ _ l0_3 ((rd_T98 l0_4 x3_1).f0) true _ ?side1 ?side2 A10.out).mono ?_
    (case side1 => first | exact bC HR0_3.out HB.out | exact Kd.C_below HR0_3.out HB.out)
    (case side2 => exact HC0_3.out)
    rintro e w' ⟨rfl, ⟨nd, rfl⟩⟩
    refine ⟨_, rfl, ?_⟩
    refine hK.out _ _ ⟨(blk_cell BK456.out 0).trans rfl, (blk_cell BK456.out 1).trans rfl, (blk_cell BK456.out 2).trans rfl, (blk_cell BK456.out 3).trans rfl, (blk_cell BK456.out 4).trans rfl, (blk_cell BK458.out 0).trans rfl, (blk_cell BK458.out 1).trans rfl, (blk_cell BK458.out 2).trans rfl, (bcl_ HB.out hw461_0 :), (bcl_ HB.out hw461_1 :), (bcl_ HB.out hw461_2 :), (bcl_ HB.out hw461_3 :)⟩ (fun hHeld => ?_)
    clear hK K
    refine norm_ (a' := ?_) ?_ ?_
    rotate_left
    ·show Act.put _ (some 23) _ = _
     simp only [aq_]
     rfl
    refine pup_ (i := 5) (N := some 24) HT_ rfl rfl (by kernel_rfl) (fun _ _ _ h => h) (Or.inl ⟨by rfl, by intro w'; go_simp; with_reducible rfl⟩) (by simp only [aq_]; rfl) ?_
    refine pup_ (i := 6) (N := some 25) HT_ rfl rfl (by kernel_rfl) (fun _ _ _ h => h) (Or.inl ⟨by rfl, by intro w'; go_simp; with_reducible rfl⟩) (by simp only [aq_]; rfl) ?_
    refine pup_ (i := 7) (N := some 26) HT_ rfl rfl (by kernel_rfl) (fun _ _ _ h => h) (Or.inl ⟨by rfl, by intro w'; go_simp; with_reducible rfl⟩) (by simp only [aq_]; rfl) ?_
    refine pup_ (i := 9) (N := some 28) HT_ rfl rfl (by kernel_rfl) (fun _ _ _ h => h) (Or.inl ⟨by rfl, by intro w'; go_simp; with_reducible rfl⟩) (by simp only [aq_]; rfl) ?_
    refine take_ (i := 8) (N := some 27) (v := ?_) (a' := ?_) q94_10 rfl rfl (take_ofW HT_.out HW_.out (by kernel_rfl)) (fun _ _ _ h => h) (Or.inl ⟨by rfl, ?_⟩) hHeld ?_ ?_
    rotate_left
    ·rintro w' ⟨s0, s1, s2, s3, s4, s5, s6, s7, s8, s9, s10, s11⟩
     go_simp
     with_reducible rfl
    rotate_left
    ·simp only [aq_]
     rfl
    refine take_ (i := 10) (N := some 29) (v := ?_) (a' := ?_) q94_11 rfl rfl (take_ofW HT_.out HW_.out (by kernel_rfl)) (fun _ _ _ h => h) (Or.inl ⟨by rfl, ?_⟩) hHeld ?_ ?_
    rotate_left
    ·rintro w' ⟨s0, s1, s2, s3, s4, s5, s6, s7, s8, s9, s10, s11⟩
     go_simp
     with_reducible rfl
    rotate_left
    ·simp only [aq_]
     rfl
    refine pup_ (i := 11) (N := some 30) HT_ rfl rfl (by kernel_rfl) (fun _ _ _ h => h) (Or.inl ⟨by rfl, by intro w'; go_simp; with_reducible rfl⟩) (by simp only [aq_]; rfl) ?_
    refine one_ (i := 12) (N := some 31) q94_13 rfl rfl (one_of HT_.out (by kernel_rfl)) (by decide) (fun K hK => ?_)
    refine goes_ Try.func56 (by kernel_rfl) rfl #[.int .i64 ((rd_T98 l0_4 x3_1).f1), .int .i64 0, .int .i64 (wrap64 (a0_0 - 1))] (by rfl) rfl rfl (by (try simp only [mA_]); first | done | rfl | (simp only [List.length_drop, List.length_take]; rfl)) ?_
    with_reducible refine (spec_l1In.calls ((rd_T98 l0_4 x3_1).f1) 0 (wrap64 (a0_0 - 1)) true _ A12.out).mono ?_
    rintro e w' ⟨rfl, ⟨nd, rfl⟩⟩
    refine ⟨_, rfl, ?_⟩
    refine hK.out _ _ ⟨(blk_cell BK456.out 0).trans rfl, (blk_cell BK456.out 1).trans rfl, (blk_cell BK456.out 2).trans rfl, (blk_cell BK456.out 3).trans rfl, (blk_cell BK456.out 4).trans rfl, (blk_cell BK458.out 0).trans rfl, (blk_cell BK458.out 1).trans rfl, (blk_cell BK458.out 2).trans rfl, (bcl_ HB.out hw461_0 :), (bcl_ HB.out hw461_1 :), (bcl_ HB.out hw461_2 :), (bcl_ HB.out hw461_3 :)⟩ (fun hHeld => ?_)
    clear hK K
    refine norm_ (a' := ?_) ?_ ?_
    rotate_left
    ·show Act.put _ (some 31) _ = _
     simp only [aq_]
     rfl
    refine pup_ (i := 13) (N := some 32) HT_ rfl rfl (by kernel_rfl) (fun _ _ _ h => h) (Or.inl ⟨by rfl, by intro w'; go_simp; with_reducible rfl⟩) (by simp only [aq_]; rfl) ?_
    refine pup_ (i := 14) (N := some 33) HT_ rfl rfl (by kernel_rfl) (fun _ _ _ h => h) (Or.inl ⟨by rfl, by intro w'; go_simp; with_reducible rfl⟩) (by simp only [aq_]; rfl) ?_
    refine pup_ (i := 15) (N := some 34) HT_ rfl rfl (by kernel_rfl) (fun _ _ _ h => h) (Or.inl ⟨by rfl, by intro w'; go_simp; with_reducible rfl⟩) (by simp only [aq_]; rfl) ?_
    refine pup_ (i := 16) (N := some 35) HT_ rfl rfl (by kernel_rfl) (fun _ _ _ h => h) (Or.inl ⟨by rfl, by intro w'; go_simp; with_reducible rfl⟩) (by simp only [aq_]; rfl) ?_
    refine pup_ (i := 18) (N := some 37) HT_ rfl rfl (by kernel_rfl) (fun _ _ _ h => h) (Or.inl ⟨by rfl, by intro w'; go_simp; with_reducible rfl⟩) (by simp only [aq_]; rfl) ?_
    refine take_ (i := 17) (N := some 36) (v := ?_) (a' := ?_) q94_19 rfl rfl (take_ofW HT_.out HW_.out (by kernel_rfl)) (fun _ _ _ h => h) (Or.inl ⟨by rfl, ?_⟩) hHeld ?_ ?_
    rotate_left
    ·rintro w' ⟨s0, s1, s2, s3, s4, s5, s6, s7, s8, s9, s10, s11⟩
     go_simp
     with_reducible rfl
    rotate_left
    ·simp only [aq_]
     rfl
    refine take_ (i := 19) (N := some 38) (v := ?_) (a' := ?_) q94_20 rfl rfl (take_ofW HT_.out HW_.out (by kernel_rfl)) (fun _ _ _ h => h) (Or.inl ⟨by rfl, ?_⟩) hHeld ?_ ?_
    rotate_left
    ·rintro w' ⟨s0, s1, s2, s3, s4, s5, s6, s7, s8, s9, s10, s11⟩
     go_simp
     with_reducible rfl
    rotate_left
    ·simp only [aq_]
     rfl
    refine pup_ (i := 20) (N := some 39) HT_ rfl rfl (by kernel_rfl) (fun _ _ _ h => h) (Or.inl ⟨by rfl, by intro w'; go_simp; with_reducible rfl⟩) (by simp only [aq_]; rfl) ?_
    refine pup_ (i := 21) (N := some 40) HT_ rfl rfl (by kernel_rfl) (fun _ _ _ h => h) (Or.inl ⟨by rfl, by intro w'; go_simp; with_reducible rfl⟩) (by simp only [aq_]; rfl) ?_
    refine pup_ (i := 22) (N := some 41) HT_ rfl rfl (by kernel_rfl) (fun _ _ _ h => h) (Or.inl ⟨by rfl, by intro w'; go_simp; with_reducible rfl⟩) (by simp only [aq_]; rfl) ?_
    refine pup_ (i := 23) (N := some 42) HT_ rfl rfl (by kernel_rfl) (fun _ _ _ h => h) (Or.inl ⟨by rfl, by intro w'; go_simp; with_reducible rfl⟩) (by simp only [aq_]; rfl) ?_
    refine pup_ (i := 25) (N := some 44) HT_ rfl rfl (by kernel_rfl) (fun _ _ _ h => h) (Or.inl ⟨by rfl, by intro w'; go_simp; with_reducible rfl⟩) (by simp only [aq_]; rfl) ?_
    refine pup_ (i := 27) (N := some 46) HT_ rfl rfl (by kernel_rfl) (fun _ _ _ h => h) (Or.inl ⟨by rfl, by intro w'; go_simp; with_reducible rfl⟩) (by simp only [aq_]; rfl) ?_
    refine take_ (i := 24) (N := some 43) (v := ?_) (a' := ?_) q94_37 rfl rfl (take_ofW HT_.out HW_.out (by kernel_rfl)) (fun _ _ _ h => h) (Or.inl ⟨by rfl, ?_⟩) hHeld ?_ ?_
    rotate_left
    ·rintro w' ⟨s0, s1, s2, s3, s4, s5, s6, s7, s8, s9, s10, s11⟩
     go_simp
     with_reducible rfl
    rotate_left
    ·simp only [aq_]
     rfl
    refine take_ (i := 26) (N := some 45) (v := ?_) (a' := ?_) q94_28 rfl rfl (take_ofW HT_.out HW_.out (by kernel_rfl)) (fun _ _ _ h => h) (Or.inl ⟨by rfl, ?_⟩) hHeld ?_ ?_
    rotate_left
    ·rintro w' ⟨s0, s1, s2, s3, s4, s5, s6, s7, s8, s9, s10, s11⟩
     go_simp
     with_reducible rfl
    rotate_left
    ·simp only [aq_]
     rfl
    refine take_ (i := 28) (N := some 47) (v := ?_) (a' := ?_) q94_29 rfl rfl (take_ofW HT_.out HW_.out (by kernel_rfl)) (fun _ _ _ h => h) (Or.inl ⟨by rfl, ?_⟩) hHeld ?_ ?_
    rotate_left
    ·rintro w' ⟨s0, s1, s2, s3, s4, s5, s6, s7, s8, s9, s10, s11⟩
     go_simp
     with_reducible rfl
    rotate_left
    ·simp only [aq_]
     rfl
    refine pup_ (i := 29) (N := some 48) HT_ rfl rfl (by kernel_rfl) (fun _ _ _ h => h) (Or.inl ⟨by rfl, by intro w'; go_simp; with_reducible rfl⟩) (by simp only [aq_]; rfl) ?_
    refine pup_ (i := 30) (N := some 49) HT_ rfl rfl (by kernel_rfl) (fun _ _ _ h => h) (Or.inl ⟨by rfl, by intro w'; go_simp; with_reducible rfl⟩) (by simp only [aq_]; rfl) ?_
    refine take_ (i := 31) (N := some 50) (v := ?_) (a' := ?_) q94_32 rfl rfl (take_ofW HT_.out HW_.out (by kernel_rfl)) (fun _ _ _ h => h) (Or.inl ⟨by rfl, ?_⟩) hHeld ?_ ?_
    rotate_left
    ·rintro w' ⟨s0, s1, s2, s3, s4, s5, s6, s7, s8, s9, s10, s11⟩
     go_simp
     with_reducible rfl
    rotate_left
    ·simp only [aq_]
     rfl
    refine pup_ (i := 32) (N := some 51) HT_ rfl rfl (by kernel_rfl) (fun _ _ _ h => h) (Or.inl ⟨by rfl, by intro w'; go_simp; with_reducible rfl⟩) (by simp only [aq_]; rfl) ?_
    refine pup_ (i := 33) (N := some 52) HT_ rfl rfl (by kernel_rfl) (fun _ _ _ h => h) (Or.inl ⟨by rfl, by intro w'; go_simp; with_reducible rfl⟩) (by simp only [aq_]; rfl) ?_
    refine done_ (done_of HT_.out (by kernel_rfl)) ?_
    try go_wp2
    go_meet
    case rel => exact ⟨_, (decide (((rd_T98 l0_4 x3_1).f2) < ((rd_T61 l0_3 ((rd_T98 l0_4 x3_1).f0)).f2))), (by first | rfl | (simp; done) | (simp [*]; done)), H', ⟨by have := HK1.out; first | omega | exact Nat.le_refl _⟩, ⟨bs BK456.out⟩, ⟨bs BK458.out⟩, ⟨by repeat (first | (with_reducible first | exact bw HB.out | refine bset ?_ | apply bA | apply bN | apply bD) | exact HB.out)⟩⟩
   case rest =>
    clear HC5
    try clear c1
    try clear p2
    try clear c5
    try clear p6
    try clear c9
    try clear c11
    try clear c13
    try clear c17
    try clear c18
    obtain ⟨kq, x52_4, rfl, HA, HJ4, BK456, BK458, HB⟩ := hcut
    cases kq with
    | zero => exact absurd HA.out (by simp [spec_l12Tasks.j1])
    | succ kj4 =>
     have H := HA.out
     clear HA
     simp only [spec_l12Tasks.j1] at H
     by_cases c25 : x52_4 = true
     ·subst c25
      have H1 : (some false) = some r := by rw [if_pos rfl] at H; exact H
      clear H
      have H := H1
      clear H1
      obtain rfl := Option.some.inj H
      go_wp2
      go_ret
      exact ⟨by first | rfl | (simp [errW_none, errW_some] <;> rfl) | (simp [*, errW_none, errW_some] <;> rfl), by repeat (first | (with_reducible first | exact bw HB.out | refine bset ?_ | apply bA | apply bN | apply bD) | exact HB.out)⟩
     replace c25 := Bool.eq_false_iff.mpr c25
     subst c25
     have H1 : (spec_l12Tasks.l1 kj4 x3_1 0 a0_0 a0_1 a0_2 l0_3 l0_4 ((rd_T98 l0_4 x3_1).f0) ((rd_T98 l0_4 x3_1).f1) ((rd_T98 l0_4 x3_1).f2)) = some r := by rw [if_neg (show ¬ (false = true) by decide)] at H; exact H
     clear H
     have H := H1
     clear H1
     have H' := Aside0.mk H
     clear H
     go_wp2
     go_loopg [5] kj4 (fun kq v5 w' => ∃ (x5_3 : Int), v5 = .int .i64 x5_3 ∧ Aside0 (spec_l12Tasks.l1 kq x3_1 x5_3 a0_0 a0_1 a0_2 l0_3 l0_4 ((rd_T98 l0_4 x3_1).f0) ((rd_T98 l0_4 x3_1).f1) ((rd_T98 l0_4 x3_1).f2) = some r) ∧ Aside0 (kq ≤ kj4) ∧ Aside0 (w'.heap[gb456]? = some (.cells #[.int .i64 a0_0, .int .i64 a0_1, .int .i64 a0_2, (.slice A0_3 l0_3.length c0_3), (.slice (some ad457) l0_4.length c0_4)] 43 (0, 0))) ∧ Aside0 (w'.heap[gb458]? = some (.cells #[.int .i64 ((rd_T98 l0_4 x3_1).f0), .int .i64 ((rd_T98 l0_4 x3_1).f1), .int .i64 ((rd_T98 l0_4 x3_1).f2)] 98 (0, 0))) ∧ Aside0 (Below w.heap.size w w'))
     case atStart => exact ⟨(0), (by first | rfl | (simp; done) | (simp [*]; done)), H', ⟨Nat.le_refl _⟩, ⟨bs BK456.out⟩, ⟨bs BK458.out⟩, ⟨by repeat (first | (with_reducible first | exact bw HB.out | refine bset ?_ | apply bA | apply bN | apply bD) | exact HB.out)⟩⟩
     case round =>
      clear H'
      try clear c1
      try clear c2
      try clear p2
      try clear c5
      try clear p6
      try clear c9
      try clear c11
      try clear c13
      try clear c17
      try clear c18
      try clear c25
      try clear p2
      try clear p6
      obtain ⟨x5_3, rfl, HA, HK3, BK456, BK458, HB⟩ := hrel
      cases gk with
      | zero => exact absurd HA.out (by simp [spec_l12Tasks.l1])
      | succ k3 =>
       have H := HA.out
       clear HA
       simp only [spec_l12Tasks.l1] at H
       by_cases c26 : x5_3 < x3_1
       rotate_left
       ·rw [if_neg c26] at H
        have c26b0 : decide (x5_3 < x3_1) = false := decide_eq_false c26
        clear c26
        by_cases c66 : x3_1 > 0
        rotate_left
        ·rw [if_neg c66] at H
         have c66b0 : decide (0 < x3_1) = false := decide_eq_false c66
         clear c66
         have H' := Aside0.mk H
         clear H
         try go_wp2
         have n0_ := Aside0.mk (blk_drew BK456.out)
         have n1_ := Aside0.mk (blk_drew BK458.out)
         have n2_ := Aside0.mk (below_drew1 HB.out)
         replace BK456 := n0_
         replace BK458 := n1_
         replace HB := n2_
         clear n0_ n1_ n2_
         refine start_ (n := 38) (S := fun w' => True) (ds := []) q94_78 (by kernel_rfl) rfl rfl trivial (fun hHeld => ?_); refine with_tabW spec_l12Tasks.tab13 spec_l12Tasks.bits13 (fun HT_ HW_ => ?_)
         generalize wr.drew = w77 at BK456 BK458 HB hHeld ⊢
         refine pup_ (i := 0) (N := some 90) HT_ rfl rfl (by kernel_rfl) (fun _ _ _ h => h) (Or.inl ⟨by rfl, by intro w'; go_simp; with_reducible rfl⟩) (by simp only [aq_]; rfl) ?_
         refine pup_ (i := 1) (N := some 91) HT_ rfl rfl (by kernel_rfl) (fun _ _ _ h => h) (Or.inl ⟨by rfl, by intro w'; go_simp; with_reducible rfl⟩) (by simp only [aq_]; rfl) ?_
         refine pup_ (i := 2) (N := some 92) HT_ rfl rfl (by kernel_rfl) (fun _ _ _ h => h) (Or.inl ⟨by rfl, by intro w'; go_simp; with_reducible rfl⟩) (by simp only [aq_]; rfl) ?_
         refine skp_ HT_ 3 (some 93) rfl rfl (by kernel_rfl) (fun _ _ _ h => h) (by rfl) (by simp only [aq_]; rfl) ?_
         refine skp_ HT_ 4 (some 94) rfl rfl (by kernel_rfl) (fun _ _ _ h => h) (by rfl) (by simp only [aq_]; rfl) ?_
         refine skp_ HT_ 5 (some 95) rfl rfl (by kernel_rfl) (fun _ _ _ h => h) (by rfl) (by simp only [aq_]; rfl) ?_
         refine skp_ HT_ 6 (some 96) rfl rfl (by kernel_rfl) (fun _ _ _ h => h) (by rfl) (by simp only [aq_]; rfl) ?_
         refine skp_ HT_ 7 (some 97) rfl rfl (by kernel_rfl) (fun _ _ _ h => h) (by rfl) (by simp only [aq_]; rfl) ?_
         refine skp_ HT_ 8 (some 98) rfl rfl (by kernel_rfl) (fun _ _ _ h => h) (by rfl) (by simp only [aq_]; rfl) ?_
         refine skp_ HT_ 9 (some 99) rfl rfl (by kernel_rfl) (fun _ _ _ h => h) (by rfl) (by simp only [aq_]; rfl) ?_
         refine skp_ HT_ 10 (some 100) rfl rfl (by kernel_rfl) (fun _ _ _ h => h) (by rfl) (by simp only [aq_]; rfl) ?_
         refine skp_ HT_ 11 (some 101) rfl rfl (by kernel_rfl) (fun _ _ _ h => h) (by rfl) (by simp only [aq_]; rfl) ?_
         refine skp_ HT_ 12 (some 102) rfl rfl (by kernel_rfl) (fun _ _ _ h => h) (by rfl) (by simp only [aq_]; rfl) ?_
         refine skp_ HT_ 13 (some 103) rfl rfl (by kernel_rfl) (fun _ _ _ h => h) (by rfl) (by simp only [aq_]; rfl) ?_
         refine skp_ HT_ 14 (some 104) rfl rfl (by kernel_rfl) (fun _ _ _ h => h) (by rfl) (by simp only [aq_]; rfl) ?_
         refine skp_ HT_ 15 (some 105) rfl rfl (by kernel_rfl) (fun _ _ _ h => h) (by rfl) (by simp only [aq_]; rfl) ?_
         refine skp_ HT_ 16 (some 106) rfl rfl (by kernel_rfl) (fun _ _ _ h => h) (by rfl) (by simp only [aq_]; rfl) ?_
         refine skp_ HT_ 17 (some 107) rfl rfl (by kernel_rfl) (fun _ _ _ h => h) (by rfl) (by simp only [aq_]; rfl) ?_
         refine skp_ HT_ 18 (some 108) rfl rfl (by kernel_rfl) (fun _ _ _ h => h) (by rfl) (by simp only [aq_]; rfl) ?_
         refine skp_ HT_ 19 (some 109) rfl rfl (by kernel_rfl) (fun _ _ _ h => h) (by rfl) (by simp only [aq_]; rfl) ?_
         refine skp_ HT_ 20 (some 110) rfl rfl (by kernel_rfl) (fun _ _ _ h => h) (by rfl) (by simp only [aq_]; rfl) ?_
         refine skp_ HT_ 21 (some 111) rfl rfl (by kernel_rfl) (fun _ _ _ h => h) (by rfl) (by simp only [aq_]; rfl) ?_
         refine skp_ HT_ 22 (some 112) rfl rfl (by kernel_rfl) (fun _ _ _ h => h) (by rfl) (by simp only [aq_]; rfl) ?_
         refine skp_ HT_ 23 (some 113) rfl rfl (by kernel_rfl) (fun _ _ _ h => h) (by rfl) (by simp only [aq_]; rfl) ?_
         refine skp_ HT_ 24 (some 114) rfl rfl (by kernel_rfl) (fun _ _ _ h => h) (by rfl) (by simp only [aq_]; rfl) ?_
         refine skp_ HT_ 25 (some 115) rfl rfl (by kernel_rfl) (fun _ _ _ h => h) (by rfl) (by simp only [aq_]; rfl) ?_
         refine skp_ HT_ 26 (some 116) rfl rfl (by kernel_rfl) (fun _ _ _ h => h) (by rfl) (by simp only [aq_]; rfl) ?_
         refine skp_ HT_ 27 (some 117) rfl rfl (by kernel_rfl) (fun _ _ _ h => h) (by rfl) (by simp only [aq_]; rfl) ?_
         refine skp_ HT_ 28 (some 118) rfl rfl (by kernel_rfl) (fun _ _ _ h => h) (by rfl) (by simp only [aq_]; rfl) ?_
         refine skp_ HT_ 29 (some 119) rfl rfl (by kernel_rfl) (fun _ _ _ h => h) (by rfl) (by simp only [aq_]; rfl) ?_
         refine skp_ HT_ 30 (some 120) rfl rfl (by kernel_rfl) (fun _ _ _ h => h) (by rfl) (by simp only [aq_]; rfl) ?_
         refine skp_ HT_ 31 (some 121) rfl rfl (by kernel_rfl) (fun _ _ _ h => h) (by rfl) (by simp only [aq_]; rfl) ?_
         refine skp_ HT_ 32 (some 122) rfl rfl (by kernel_rfl) (fun _ _ _ h => h) (by rfl) (by simp only [aq_]; rfl) ?_
         refine skp_ HT_ 33 (some 123) rfl rfl (by kernel_rfl) (fun _ _ _ h => h) (by rfl) (by simp only [aq_]; rfl) ?_
         refine skp_ HT_ 34 (some 124) rfl rfl (by kernel_rfl) (fun _ _ _ h => h) (by rfl) (by simp only [aq_]; rfl) ?_
         refine skp_ HT_ 35 (some 125) rfl rfl (by kernel_rfl) (fun _ _ _ h => h) (by rfl) (by simp only [aq_]; rfl) ?_
         refine skp_ HT_ 36 (some 126) rfl rfl (by kernel_rfl) (fun _ _ _ h => h) (by rfl) (by simp only [aq_]; rfl) ?_
         refine pup_ (i := 37) (N := some 127) HT_ rfl rfl (by kernel_rfl) (fun _ _ _ h => h) (Or.inl ⟨by rfl, by intro w'; go_simp; with_reducible rfl⟩) (by simp only [aq_]; rfl) ?_
         refine done_ (done_of HT_.out (by kernel_rfl)) ?_
         try go_wp2
         go_roundg k3
         case measure => have := HK1.out; have := HJ4.out; have := HK3.out; omega
         case rel => exact ⟨(wrap64 (x3_1 + 1)), (by first | rfl | (simp; done) | (simp [*]; done)), H', ⟨by have := HK1.out; have := HJ4.out; have := HK3.out; omega⟩, ⟨bs BK456.out⟩, ⟨by repeat (first | (with_reducible first | exact bw HB.out | refine bset ?_ | apply bA | apply bN | apply bD) | exact HB.out)⟩⟩
        rw [if_pos c66] at H
        have c66b0 : decide (0 < x3_1) = true := decide_eq_true c66
        clear c66
        obtain ⟨ji67, hji67⟩ : ∃ j_ : Int, (wrap64 (x3_1 - 1)) = j_ := ⟨_, rfl⟩
        replace H : (if 0 ≤ (ji67) then (if (ji67) < (l0_4.length : Int) then (if ((rd_T98 l0_4 (ji67)).f2) > ((rd_T98 l0_4 x3_1).f2) then (some false) else (if ((rd_T98 l0_4 (ji67)).f2) = ((rd_T98 l0_4 x3_1).f2) then (if ((rd_T98 l0_4 (ji67)).f1) ≥ ((rd_T98 l0_4 x3_1).f1) then (some false) else (spec_l12Tasks.l0 k3 (wrap64 (x3_1 + 1)) a0_0 a0_1 a0_2 l0_3 l0_4)) else (spec_l12Tasks.l0 k3 (wrap64 (x3_1 + 1)) a0_0 a0_1 a0_2 l0_3 l0_4))) else (none)) else (none)) = some r := by first | (rw [hji67] at H; exact H) | (simp only [hji67] at H ⊢; exact H)
        have hji67w : (IntKind.i64.wrap (x3_1 - 1)) = ji67 := (i64_w _).trans hji67
        by_cases c68 : 0 ≤ (ji67)
        rotate_left
        ·rw [if_neg c68] at H
         exact absurd H (by simp)
        rw [if_pos c68] at H
        have c68b0 : decide (0 ≤ (ji67)) = true := decide_eq_true c68
        clear c68
        by_cases c69 : (ji67) < (l0_4.length : Int)
        rotate_left
        ·rw [if_neg c69] at H
         exact absurd H (by simp)
        rw [if_pos c69] at H
        have c69b0 : decide ((ji67) < (l0_4.length : Int)) = true := decide_eq_true c69
        clear c69
        by_cases c70 : ((rd_T98 l0_4 (ji67)).f2) > ((rd_T98 l0_4 x3_1).f2)
        ·rw [if_pos c70] at H
         have c70b0 : decide (((rd_T98 l0_4 x3_1).f2) < ((rd_T98 l0_4 (ji67)).f2)) = true := decide_eq_true c70
         clear c70
         obtain rfl := Option.some.inj H
         try go_wp2
         have n0_ := Aside0.mk (blk_drew BK456.out)
         have n1_ := Aside0.mk (blk_drew BK458.out)
         have n2_ := Aside0.mk (below_drew1 HB.out)
         replace BK456 := n0_
         replace BK458 := n1_
         replace HB := n2_
         clear n0_ n1_ n2_
         have p465 : 0 ≤ ((ji67) : Int) := of_decide_eq_true (by first | (with_reducible assumption) | assumption)
         have q465 : (ji67) < (l0_4.length : Int) := of_decide_eq_true (by first | (with_reducible assumption) | assumption)
         obtain ⟨ad465, e465, hx465_0, hx465_1, hx465_2⟩ := at_T98 HR0_4.out (ji67) p465 q465
         have hw465_2 := hx465_2
         have hw465_1 := hx465_1
         have hw465_0 := hx465_0
         obtain rfl : ad457 = ad465 := (by injection e465)
         replace hx465_0 := (HB.out.cell (World.block_lt_of_cell? w _ hx465_0)).trans hx465_0
         replace hx465_1 := (HB.out.cell (World.block_lt_of_cell? w _ hx465_1)).trans hx465_1
         replace hx465_2 := (HB.out.cell (World.block_lt_of_cell? w _ hx465_2)).trans hx465_2
         replace p465 := eq_true p465
         replace q465 := eq_true q465
         refine start_ (n := 38) (S := fun w' => w'.cell? ⟨gb456, 0, none⟩ = some (.int .i64 a0_0) ∧ w'.cell? ⟨gb456, 1, none⟩ = some (.int .i64 a0_1) ∧ w'.cell? ⟨gb456, 2, none⟩ = some (.int .i64 a0_2) ∧ w'.cell? ⟨gb456, 3, none⟩ = some (.slice A0_3 l0_3.length c0_3) ∧ w'.cell? ⟨gb456, 4, none⟩ = some (.slice (some ad457) l0_4.length c0_4) ∧ w'.cell? ⟨gb458, 0, none⟩ = some (.int .i64 ((rd_T98 l0_4 x3_1).f0)) ∧ w'.cell? ⟨gb458, 1, none⟩ = some (.int .i64 ((rd_T98 l0_4 x3_1).f1)) ∧ w'.cell? ⟨gb458, 2, none⟩ = some (.int .i64 ((rd_T98 l0_4 x3_1).f2)) ∧ w'.cell? (ad457.add (((ji67)).toNat * 3)) = some (.int .i64 ((rd_T98 l0_4 (ji67)).f0)) ∧ w'.cell? ⟨(ad457.add (((ji67)).toNat * 3)).block, (ad457.add (((ji67)).toNat * 3)).off + 1, none⟩ = some (.int .i64 ((rd_T98 l0_4 (ji67)).f1)) ∧ w'.cell? ⟨(ad457.add (((ji67)).toNat * 3)).block, (ad457.add (((ji67)).toNat * 3)).off + 2, none⟩ = some (.int .i64 ((rd_T98 l0_4 (ji67)).f2))) (ds := []) q94_78 (by kernel_rfl) rfl rfl ⟨(blk_cell BK456.out 0).trans rfl, (blk_cell BK456.out 1).trans rfl, (blk_cell BK456.out 2).trans rfl, (blk_cell BK456.out 3).trans rfl, (blk_cell BK456.out 4).trans rfl, (blk_cell BK458.out 0).trans rfl, (blk_cell BK458.out 1).trans rfl, (blk_cell BK458.out 2).trans rfl, (bcl_ HB.out hw465_0 :), (bcl_ HB.out hw465_1 :), (bcl_ HB.out hw465_2 :)⟩ (fun hHeld => ?_); refine with_tabW spec_l12Tasks.tab13 spec_l12Tasks.bits13 (fun HT_ HW_ => ?_)
         generalize wr.drew = w71 at BK456 BK458 HB hx465_0 hx465_1 hx465_2 hHeld ⊢
         refine pup_ (i := 0) (N := some 90) HT_ rfl rfl (by kernel_rfl) (fun _ _ _ h => h) (Or.inl ⟨by rfl, by intro w'; go_simp; with_reducible rfl⟩) (by simp only [aq_]; rfl) ?_
         refine pup_ (i := 1) (N := some 91) HT_ rfl rfl (by kernel_rfl) (fun _ _ _ h => h) (Or.inl ⟨by rfl, by intro w'; go_simp; with_reducible rfl⟩) (by simp only [aq_]; rfl) ?_
         refine pup_ (i := 2) (N := some 92) HT_ rfl rfl (by kernel_rfl) (fun _ _ _ h => h) (Or.inl ⟨by rfl, by intro w'; go_simp; with_reducible rfl⟩) (by simp only [aq_]; rfl) ?_
         refine pup_ (i := 3) (N := some 93) HT_ rfl rfl (by kernel_rfl) (fun _ _ _ h => h) (Or.inl ⟨by rfl, by intro w'; go_simp; with_reducible rfl⟩) (by simp only [aq_]; rfl) ?_
         refine pup_ (i := 5) (N := some 95) HT_ rfl rfl (by kernel_rfl) (fun _ _ _ h => h) (Or.inl ⟨by rfl, by intro w'; go_simp; with_reducible rfl⟩) (by simp only [aq_]; rfl) ?_
         refine pup_ (i := 6) (N := some 96) HT_ rfl rfl (by kernel_rfl) (fun _ _ _ h => h) (Or.inl ⟨by rfl, by intro w'; go_simp; with_reducible rfl⟩) (by simp only [aq_]; rfl) ?_
         refine pup_ (i := 10) (N := some 100) HT_ rfl rfl (by kernel_rfl) (fun _ _ _ h => h) (Or.inl ⟨by rfl, by intro w'; go_simp; with_reducible rfl⟩) (by simp only [aq_]; rfl) ?_
         refine take_ (i := 4) (N := some 94) (v := ?_) (a' := ?_) q94_86 rfl rfl (take_ofW HT_.out HW_.out (by kernel_rfl)) (fun _ _ _ h => h) (Or.inl ⟨by rfl, ?_⟩) hHeld ?_ ?_
         rotate_left
         ·rintro w' ⟨s0, s1, s2, s3, s4, s5, s6, s7, s8, s9, s10⟩
          go_simp
          with_reducible rfl
         rotate_left
         ·simp only [aq_]
          rfl
         refine pup_ (i := 7) (N := some 97) HT_ rfl rfl (by kernel_rfl) (fun _ _ _ h => h) (Or.inl ⟨by rfl, by intro w'; go_simp; with_reducible rfl⟩) (by simp only [aq_]; rfl) ?_
         refine pup_ (i := 8) (N := some 98) HT_ rfl rfl (by kernel_rfl) (fun _ _ _ h => h) (Or.inl ⟨by rfl, by intro w'; go_simp; with_reducible rfl⟩) (by simp only [aq_]; rfl) ?_
         refine take_ (i := 9) (N := some 99) (v := ?_) (a' := ?_) q94_89 rfl rfl (take_ofW HT_.out HW_.out (by kernel_rfl)) (fun _ _ _ h => h) (Or.inl ⟨by rfl, ?_⟩) hHeld ?_ ?_
         rotate_left
         ·rintro w' ⟨s0, s1, s2, s3, s4, s5, s6, s7, s8, s9, s10⟩
          go_simp
          with_reducible rfl
         rotate_left
         ·simp only [aq_]
          rfl
         refine take_ (i := 11) (N := some 101) (v := ?_) (a' := ?_) q94_90 rfl rfl (take_ofW HT_.out HW_.out (by kernel_rfl)) (fun _ _ _ h => h) (Or.inl ⟨by rfl, ?_⟩) hHeld ?_ ?_
         rotate_left
         ·rintro w' ⟨s0, s1, s2, s3, s4, s5, s6, s7, s8, s9, s10⟩
          go_simp
          with_reducible rfl
         rotate_left
         ·simp only [aq_]
          rfl
         refine pup_ (i := 12) (N := some 102) HT_ rfl rfl (by kernel_rfl) (fun _ _ _ h => h) (Or.inl ⟨by rfl, by intro w'; go_simp; with_reducible rfl⟩) (by simp only [aq_]; rfl) ?_
         refine pup_ (i := 13) (N := some 103) HT_ rfl rfl (by kernel_rfl) (fun _ _ _ h => h) (Or.inl ⟨by rfl, by intro w'; go_simp; with_reducible rfl⟩) (by simp only [aq_]; rfl) ?_
         refine skp_ HT_ 14 (some 104) rfl rfl (by kernel_rfl) (fun _ _ _ h => h) (by rfl) (by simp only [aq_]; rfl) ?_
         refine skp_ HT_ 15 (some 105) rfl rfl (by kernel_rfl) (fun _ _ _ h => h) (by rfl) (by simp only [aq_]; rfl) ?_
         refine skp_ HT_ 16 (some 106) rfl rfl (by kernel_rfl) (fun _ _ _ h => h) (by rfl) (by simp only [aq_]; rfl) ?_
         refine skp_ HT_ 17 (some 107) rfl rfl (by kernel_rfl) (fun _ _ _ h => h) (by rfl) (by simp only [aq_]; rfl) ?_
         refine skp_ HT_ 18 (some 108) rfl rfl (by kernel_rfl) (fun _ _ _ h => h) (by rfl) (by simp only [aq_]; rfl) ?_
         refine skp_ HT_ 19 (some 109) rfl rfl (by kernel_rfl) (fun _ _ _ h => h) (by rfl) (by simp only [aq_]; rfl) ?_
         refine skp_ HT_ 20 (some 110) rfl rfl (by kernel_rfl) (fun _ _ _ h => h) (by rfl) (by simp only [aq_]; rfl) ?_
         refine skp_ HT_ 21 (some 111) rfl rfl (by kernel_rfl) (fun _ _ _ h => h) (by rfl) (by simp only [aq_]; rfl) ?_
         refine skp_ HT_ 22 (some 112) rfl rfl (by kernel_rfl) (fun _ _ _ h => h) (by rfl) (by simp only [aq_]; rfl) ?_
         refine skp_ HT_ 23 (some 113) rfl rfl (by kernel_rfl) (fun _ _ _ h => h) (by rfl) (by simp only [aq_]; rfl) ?_
         refine skp_ HT_ 24 (some 114) rfl rfl (by kernel_rfl) (fun _ _ _ h => h) (by rfl) (by simp only [aq_]; rfl) ?_
         refine skp_ HT_ 25 (some 115) rfl rfl (by kernel_rfl) (fun _ _ _ h => h) (by rfl) (by simp only [aq_]; rfl) ?_
         refine skp_ HT_ 26 (some 116) rfl rfl (by kernel_rfl) (fun _ _ _ h => h) (by rfl) (by simp only [aq_]; rfl) ?_
         refine skp_ HT_ 27 (some 117) rfl rfl (by kernel_rfl) (fun _ _ _ h => h) (by rfl) (by simp only [aq_]; rfl) ?_
         refine skp_ HT_ 28 (some 118) rfl rfl (by kernel_rfl) (fun _ _ _ h => h) (by rfl) (by simp only [aq_]; rfl) ?_
         refine skp_ HT_ 29 (some 119) rfl rfl (by kernel_rfl) (fun _ _ _ h => h) (by rfl) (by simp only [aq_]; rfl) ?_
         refine skp_ HT_ 30 (some 120) rfl rfl (by kernel_rfl) (fun _ _ _ h => h) (by rfl) (by simp only [aq_]; rfl) ?_
         refine skp_ HT_ 31 (some 121) rfl rfl (by kernel_rfl) (fun _ _ _ h => h) (by rfl) (by simp only [aq_]; rfl) ?_
         refine skp_ HT_ 32 (some 122) rfl rfl (by kernel_rfl) (fun _ _ _ h => h) (by rfl) (by simp only [aq_]; rfl) ?_
         refine skp_ HT_ 33 (some 123) rfl rfl (by kernel_rfl) (fun _ _ _ h => h) (by rfl) (by simp only [aq_]; rfl) ?_
         refine skp_ HT_ 34 (some 124) rfl rfl (by kernel_rfl) (fun _ _ _ h => h) (by rfl) (by simp only [aq_]; rfl) ?_
         refine skp_ HT_ 35 (some 125) rfl rfl (by kernel_rfl) (fun _ _ _ h => h) (by rfl) (by simp only [aq_]; rfl) ?_
         refine pup_ (i := 36) (N := some 126) HT_ rfl rfl (by kernel_rfl) (fun _ _ _ h => h) (Or.inl ⟨by rfl, by intro w'; go_simp; with_reducible rfl⟩) (by simp only [aq_]; rfl) ?_
         refine pup_ (i := 37) (N := some 127) HT_ rfl rfl (by kernel_rfl) (fun _ _ _ h => h) (Or.inl ⟨by rfl, by intro w'; go_simp; with_reducible rfl⟩) (by simp only [aq_]; rfl) ?_
         refine done_ (done_of HT_.out (by kernel_rfl)) ?_
         try go_wp2
         go_ret
         exact ⟨by first | rfl | (simp [errW_none, errW_some] <;> rfl) | (simp only [← hji67]; first | rfl | (simp [errW_none, errW_some] <;> rfl)) | (simp [*, errW_none, errW_some] <;> rfl), by repeat (first | (with_reducible first | exact bw HB.out | refine bset ?_ | apply bA | apply bN | apply bD) | exact HB.out)⟩
        rw [if_neg c70] at H
        have c70b0 : decide (((rd_T98 l0_4 x3_1).f2) < ((rd_T98 l0_4 (ji67)).f2)) = false := decide_eq_false c70
        clear c70
        by_cases c72 : ((rd_T98 l0_4 (ji67)).f2) = ((rd_T98 l0_4 x3_1).f2)
        rotate_left
        ·rw [if_neg c72] at H
         have c72b0 : (((rd_T98 l0_4 (ji67)).f2) == ((rd_T98 l0_4 x3_1).f2)) = false := beq_eq_false_iff_ne.mpr c72
         have c72b1 : (((rd_T98 l0_4 (ji67)).f2) != ((rd_T98 l0_4 x3_1).f2)) = true := bne_iff_ne.mpr c72
         have H' := Aside0.mk H
         clear H
         try go_wp2
         have n0_ := Aside0.mk (blk_drew BK456.out)
         have n1_ := Aside0.mk (blk_drew BK458.out)
         have n2_ := Aside0.mk (below_drew1 HB.out)
         replace BK456 := n0_
         replace BK458 := n1_
         replace HB := n2_
         clear n0_ n1_ n2_
         have p465 : 0 ≤ ((ji67) : Int) := of_decide_eq_true (by first | (with_reducible assumption) | assumption)
         have q465 : (ji67) < (l0_4.length : Int) := of_decide_eq_true (by first | (with_reducible assumption) | assumption)
         obtain ⟨ad465, e465, hx465_0, hx465_1, hx465_2⟩ := at_T98 HR0_4.out (ji67) p465 q465
         have hw465_2 := hx465_2
         have hw465_1 := hx465_1
         have hw465_0 := hx465_0
         obtain rfl : ad457 = ad465 := (by injection e465)
         replace hx465_0 := (HB.out.cell (World.block_lt_of_cell? w _ hx465_0)).trans hx465_0
         replace hx465_1 := (HB.out.cell (World.block_lt_of_cell? w _ hx465_1)).trans hx465_1
         replace hx465_2 := (HB.out.cell (World.block_lt_of_cell? w _ hx465_2)).trans hx465_2
         replace p465 := eq_true p465
         replace q465 := eq_true q465
         have p466 : 0 ≤ ((ji67) : Int) := of_decide_eq_true (by first | (with_reducible assumption) | assumption)
         have q466 : (ji67) < (l0_4.length : Int) := of_decide_eq_true (by first | (with_reducible assumption) | assumption)
         obtain ⟨ad466, e466, hx466_0, hx466_1, hx466_2⟩ := at_T98 HR0_4.out (ji67) p466 q466
         have hw466_2 := hx466_2
         have hw466_1 := hx466_1
         have hw466_0 := hx466_0
         obtain rfl : ad457 = ad466 := (by injection e466)
         replace hx466_0 := (HB.out.cell (World.block_lt_of_cell? w _ hx466_0)).trans hx466_0
         replace hx466_1 := (HB.out.cell (World.block_lt_of_cell? w _ hx466_1)).trans hx466_1
         replace hx466_2 := (HB.out.cell (World.block_lt_of_cell? w _ hx466_2)).trans hx466_2
         replace p466 := eq_true p466
         replace q466 := eq_true q466
         refine start_ (n := 38) (S := fun w' => w'.cell? ⟨gb456, 0, none⟩ = some (.int .i64 a0_0) ∧ w'.cell? ⟨gb456, 1, none⟩ = some (.int .i64 a0_1) ∧ w'.cell? ⟨gb456, 2, none⟩ = some (.int .i64 a0_2) ∧ w'.cell? ⟨gb456, 3, none⟩ = some (.slice A0_3 l0_3.length c0_3) ∧ w'.cell? ⟨gb456, 4, none⟩ = some (.slice (some ad457) l0_4.length c0_4) ∧ w'.cell? ⟨gb458, 0, none⟩ = some (.int .i64 ((rd_T98 l0_4 x3_1).f0)) ∧ w'.cell? ⟨gb458, 1, none⟩ = some (.int .i64 ((rd_T98 l0_4 x3_1).f1)) ∧ w'.cell? ⟨gb458, 2, none⟩ = some (.int .i64 ((rd_T98 l0_4 x3_1).f2)) ∧ w'.cell? (ad457.add (((ji67)).toNat * 3)) = some (.int .i64 ((rd_T98 l0_4 (ji67)).f0)) ∧ w'.cell? ⟨(ad457.add (((ji67)).toNat * 3)).block, (ad457.add (((ji67)).toNat * 3)).off + 1, none⟩ = some (.int .i64 ((rd_T98 l0_4 (ji67)).f1)) ∧ w'.cell? ⟨(ad457.add (((ji67)).toNat * 3)).block, (ad457.add (((ji67)).toNat * 3)).off + 2, none⟩ = some (.int .i64 ((rd_T98 l0_4 (ji67)).f2)) ∧ w'.cell? (ad457.add (((ji67)).toNat * 3)) = some (.int .i64 ((rd_T98 l0_4 (ji67)).f0)) ∧ w'.cell? ⟨(ad457.add (((ji67)).toNat * 3)).block, (ad457.add (((ji67)).toNat * 3)).off + 1, none⟩ = some (.int .i64 ((rd_T98 l0_4 (ji67)).f1)) ∧ w'.cell? ⟨(ad457.add (((ji67)).toNat * 3)).block, (ad457.add (((ji67)).toNat * 3)).off + 2, none⟩ = some (.int .i64 ((rd_T98 l0_4 (ji67)).f2))) (ds := []) q94_78 (by kernel_rfl) rfl rfl ⟨(blk_cell BK456.out 0).trans rfl, (blk_cell BK456.out 1).trans rfl, (blk_cell BK456.out 2).trans rfl, (blk_cell BK456.out 3).trans rfl, (blk_cell BK456.out 4).trans rfl, (blk_cell BK458.out 0).trans rfl, (blk_cell BK458.out 1).trans rfl, (blk_cell BK458.out 2).trans rfl, (bcl_ HB.out hw465_0 :), (bcl_ HB.out hw465_1 :), (bcl_ HB.out hw465_2 :), (bcl_ HB.out hw466_0 :), (bcl_ HB.out hw466_1 :), (bcl_ HB.out hw466_2 :)⟩ (fun hHeld => ?_); refine with_tabW spec_l12Tasks.tab13 spec_l12Tasks.bits13 (fun HT_ HW_ => ?_)
         generalize wr.drew = w76 at BK456 BK458 HB hx465_0 hx465_1 hx465_2 hx466_0 hx466_1 hx466_2 hHeld ⊢
         refine pup_ (i := 0) (N := some 90) HT_ rfl rfl (by kernel_rfl) (fun _ _ _ h => h) (Or.inl ⟨by rfl, by intro w'; go_simp; with_reducible rfl⟩) (by simp only [aq_]; rfl) ?_
         refine pup_ (i := 1) (N := some 91) HT_ rfl rfl (by kernel_rfl) (fun _ _ _ h => h) (Or.inl ⟨by rfl, by intro w'; go_simp; with_reducible rfl⟩) (by simp only [aq_]; rfl) ?_
         refine pup_ (i := 2) (N := some 92) HT_ rfl rfl (by kernel_rfl) (fun _ _ _ h => h) (Or.inl ⟨by rfl, by intro w'; go_simp; with_reducible rfl⟩) (by simp only [aq_]; rfl) ?_
         refine pup_ (i := 3) (N := some 93) HT_ rfl rfl (by kernel_rfl) (fun _ _ _ h => h) (Or.inl ⟨by rfl, by intro w'; go_simp; with_reducible rfl⟩) (by simp only [aq_]; rfl) ?_
         refine pup_ (i := 5) (N := some 95) HT_ rfl rfl (by kernel_rfl) (fun _ _ _ h => h) (Or.inl ⟨by rfl, by intro w'; go_simp; with_reducible rfl⟩) (by simp only [aq_]; rfl) ?_
         refine pup_ (i := 6) (N := some 96) HT_ rfl rfl (by kernel_rfl) (fun _ _ _ h => h) (Or.inl ⟨by rfl, by intro w'; go_simp; with_reducible rfl⟩) (by simp only [aq_]; rfl) ?_
         refine pup_ (i := 10) (N := some 100) HT_ rfl rfl (by kernel_rfl) (fun _ _ _ h => h) (Or.inl ⟨by rfl, by intro w'; go_simp; with_reducible rfl⟩) (by simp only [aq_]; rfl) ?_
         refine take_ (i := 4) (N := some 94) (v := ?_) (a' := ?_) q94_86 rfl rfl (take_ofW HT_.out HW_.out (by kernel_rfl)) (fun _ _ _ h => h) (Or.inl ⟨by rfl, ?_⟩) hHeld ?_ ?_
         rotate_left
         ·rintro w' ⟨s0, s1, s2, s3, s4, s5, s6, s7, s8, s9, s10, s11, s12, s13⟩
          go_simp
          with_reducible rfl
         rotate_left
         ·simp only [aq_]
          rfl
         refine pup_ (i := 7) (N := some 97) HT_ rfl rfl (by kernel_rfl) (fun _ _ _ h => h) (Or.inl ⟨by rfl, by intro w'; go_simp; with_reducible rfl⟩) (by simp only [aq_]; rfl) ?_
         refine pup_ (i := 8) (N := some 98) HT_ rfl rfl (by kernel_rfl) (fun _ _ _ h => h) (Or.inl ⟨by rfl, by intro w'; go_simp; with_reducible rfl⟩) (by simp only [aq_]; rfl) ?_
         refine take_ (i := 9) (N := some 99) (v := ?_) (a' := ?_) q94_89 rfl rfl (take_ofW HT_.out HW_.out (by kernel_rfl)) (fun _ _ _ h => h) (Or.inl ⟨by rfl, ?_⟩) hHeld ?_ ?_
         rotate_left
         ·rintro w' ⟨s0, s1, s2, s3, s4, s5, s6, s7, s8, s9, s10, s11, s12, s13⟩
          go_simp
          with_reducible rfl
         rotate_left
         ·simp only [aq_]
          rfl
         refine take_ (i := 11) (N := some 101) (v := ?_) (a' := ?_) q94_90 rfl rfl (take_ofW HT_.out HW_.out (by kernel_rfl)) (fun _ _ _ h => h) (Or.inl ⟨by rfl, ?_⟩) hHeld ?_ ?_
         rotate_left
         ·rintro w' ⟨s0, s1, s2, s3, s4, s5, s6, s7, s8, s9, s10, s11, s12, s13⟩
          go_simp
          with_reducible rfl
         rotate_left
         ·simp only [aq_]
          rfl
         refine pup_ (i := 12) (N := some 102) HT_ rfl rfl (by kernel_rfl) (fun _ _ _ h => h) (Or.inl ⟨by rfl, by intro w'; go_simp; with_reducible rfl⟩) (by simp only [aq_]; rfl) ?_
         refine pup_ (i := 13) (N := some 103) HT_ rfl rfl (by kernel_rfl) (fun _ _ _ h => h) (Or.inl ⟨by rfl, by intro w'; go_simp; with_reducible rfl⟩) (by simp only [aq_]; rfl) ?_
         refine pup_ (i := 14) (N := some 104) HT_ rfl rfl (by kernel_rfl) (fun _ _ _ h => h) (Or.inl ⟨by rfl, by intro w'; go_simp; with_reducible rfl⟩) (by simp only [aq_]; rfl) ?_
         refine pup_ (i := 16) (N := some 106) HT_ rfl rfl (by kernel_rfl) (fun _ _ _ h => h) (Or.inl ⟨by rfl, by intro w'; go_simp; with_reducible rfl⟩) (by simp only [aq_]; rfl) ?_
         refine pup_ (i := 17) (N := some 107) HT_ rfl rfl (by kernel_rfl) (fun _ _ _ h => h) (Or.inl ⟨by rfl, by intro w'; go_simp; with_reducible rfl⟩) (by simp only [aq_]; rfl) ?_
         refine pup_ (i := 21) (N := some 111) HT_ rfl rfl (by kernel_rfl) (fun _ _ _ h => h) (Or.inl ⟨by rfl, by intro w'; go_simp; with_reducible rfl⟩) (by simp only [aq_]; rfl) ?_
         refine take_ (i := 15) (N := some 105) (v := ?_) (a' := ?_) q94_120 rfl rfl (take_ofW HT_.out HW_.out (by kernel_rfl)) (fun _ _ _ h => h) (Or.inl ⟨by rfl, ?_⟩) hHeld ?_ ?_
         rotate_left
         ·rintro w' ⟨s0, s1, s2, s3, s4, s5, s6, s7, s8, s9, s10, s11, s12, s13⟩
          go_simp
          with_reducible rfl
         rotate_left
         ·simp only [aq_]
          rfl
         refine pup_ (i := 18) (N := some 108) HT_ rfl rfl (by kernel_rfl) (fun _ _ _ h => h) (Or.inl ⟨by rfl, by intro w'; go_simp; with_reducible rfl⟩) (by simp only [aq_]; rfl) ?_
         refine pup_ (i := 19) (N := some 109) HT_ rfl rfl (by kernel_rfl) (fun _ _ _ h => h) (Or.inl ⟨by rfl, by intro w'; go_simp; with_reducible rfl⟩) (by simp only [aq_]; rfl) ?_
         refine take_ (i := 20) (N := some 110) (v := ?_) (a' := ?_) q94_100 rfl rfl (take_ofW HT_.out HW_.out (by kernel_rfl)) (fun _ _ _ h => h) (Or.inl ⟨by rfl, ?_⟩) hHeld ?_ ?_
         rotate_left
         ·rintro w' ⟨s0, s1, s2, s3, s4, s5, s6, s7, s8, s9, s10, s11, s12, s13⟩
          go_simp
          with_reducible rfl
         rotate_left
         ·simp only [aq_]
          rfl
         refine take_ (i := 22) (N := some 112) (v := ?_) (a' := ?_) q94_101 rfl rfl (take_ofW HT_.out HW_.out (by kernel_rfl)) (fun _ _ _ h => h) (Or.inl ⟨by rfl, ?_⟩) hHeld ?_ ?_
         rotate_left
         ·rintro w' ⟨s0, s1, s2, s3, s4, s5, s6, s7, s8, s9, s10, s11, s12, s13⟩
          go_simp
          with_reducible rfl
         rotate_left
         ·simp only [aq_]
          rfl
         refine pup_ (i := 23) (N := some 113) HT_ rfl rfl (by kernel_rfl) (fun _ _ _ h => h) (Or.inl ⟨by rfl, by intro w'; go_simp; with_reducible rfl⟩) (by simp only [aq_]; rfl) ?_
         refine pup_ (i := 24) (N := some 114) HT_ rfl rfl (by kernel_rfl) (fun _ _ _ h => h) (Or.inl ⟨by rfl, by intro w'; go_simp; with_reducible rfl⟩) (by simp only [aq_]; rfl) ?_
         refine skp_ HT_ 25 (some 115) rfl rfl (by kernel_rfl) (fun _ _ _ h => h) (by rfl) (by simp only [aq_]; rfl) ?_
         refine skp_ HT_ 26 (some 116) rfl rfl (by kernel_rfl) (fun _ _ _ h => h) (by rfl) (by simp only [aq_]; rfl) ?_
         refine skp_ HT_ 27 (some 117) rfl rfl (by kernel_rfl) (fun _ _ _ h => h) (by rfl) (by simp only [aq_]; rfl) ?_
         refine skp_ HT_ 28 (some 118) rfl rfl (by kernel_rfl) (fun _ _ _ h => h) (by rfl) (by simp only [aq_]; rfl) ?_
         refine skp_ HT_ 29 (some 119) rfl rfl (by kernel_rfl) (fun _ _ _ h => h) (by rfl) (by simp only [aq_]; rfl) ?_
         refine skp_ HT_ 30 (some 120) rfl rfl (by kernel_rfl) (fun _ _ _ h => h) (by rfl) (by simp only [aq_]; rfl) ?_
         refine skp_ HT_ 31 (some 121) rfl rfl (by kernel_rfl) (fun _ _ _ h => h) (by rfl) (by simp only [aq_]; rfl) ?_
         refine skp_ HT_ 32 (some 122) rfl rfl (by kernel_rfl) (fun _ _ _ h => h) (by rfl) (by simp only [aq_]; rfl) ?_
         refine skp_ HT_ 33 (some 123) rfl rfl (by kernel_rfl) (fun _ _ _ h => h) (by rfl) (by simp only [aq_]; rfl) ?_
         refine skp_ HT_ 34 (some 124) rfl rfl (by kernel_rfl) (fun _ _ _ h => h) (by rfl) (by simp only [aq_]; rfl) ?_
         refine pup_ (i := 35) (N := some 125) HT_ rfl rfl (by kernel_rfl) (fun _ _ _ h => h) (Or.inl ⟨by rfl, by intro w'; go_simp; with_reducible rfl⟩) (by simp only [aq_]; rfl) ?_
         refine pup_ (i := 36) (N := some 126) HT_ rfl rfl (by kernel_rfl) (fun _ _ _ h => h) (Or.inl ⟨by rfl, by intro w'; go_simp; with_reducible rfl⟩) (by simp only [aq_]; rfl) ?_
         refine pup_ (i := 37) (N := some 127) HT_ rfl rfl (by kernel_rfl) (fun _ _ _ h => h) (Or.inl ⟨by rfl, by intro w'; go_simp; with_reducible rfl⟩) (by simp only [aq_]; rfl) ?_
         refine done_ (done_of HT_.out (by kernel_rfl)) ?_
         try go_wp2
         go_roundg k3
         case measure => have := HK1.out; have := HJ4.out; have := HK3.out; omega
         case rel => exact ⟨(wrap64 (x3_1 + 1)), (by first | rfl | (simp; done) | (simp [*]; done)), H', ⟨by have := HK1.out; have := HJ4.out; have := HK3.out; omega⟩, ⟨bs BK456.out⟩, ⟨by repeat (first | (with_reducible first | exact bw HB.out | refine bset ?_ | apply bA | apply bN | apply bD) | exact HB.out)⟩⟩
        rw [if_pos c72] at H
        have c72b0 : (((rd_T98 l0_4 (ji67)).f2) == ((rd_T98 l0_4 x3_1).f2)) = true := beq_iff_eq.mpr c72
        have c72b1 : (((rd_T98 l0_4 (ji67)).f2) != ((rd_T98 l0_4 x3_1).f2)) = false := bne_eq_false_iff_eq.mpr c72
        clear c72
        by_cases c73 : ((rd_T98 l0_4 (ji67)).f1) ≥ ((rd_T98 l0_4 x3_1).f1)
        ·rw [if_pos c73] at H
         have c73b0 : decide (((rd_T98 l0_4 x3_1).f1) ≤ ((rd_T98 l0_4 (ji67)).f1)) = true := decide_eq_true c73
         clear c73
         obtain rfl := Option.some.inj H
         try go_wp2
         have n0_ := Aside0.mk (blk_drew BK456.out)
         have n1_ := Aside0.mk (blk_drew BK458.out)
         have n2_ := Aside0.mk (below_drew1 HB.out)
         replace BK456 := n0_
         replace BK458 := n1_
         replace HB := n2_
         clear n0_ n1_ n2_
         have p465 : 0 ≤ ((ji67) : Int) := of_decide_eq_true (by first | (with_reducible assumption) | assumption)
         have q465 : (ji67) < (l0_4.length : Int) := of_decide_eq_true (by first | (with_reducible assumption) | assumption)
         obtain ⟨ad465, e465, hx465_0, hx465_1, hx465_2⟩ := at_T98 HR0_4.out (ji67) p465 q465
         have hw465_2 := hx465_2
         have hw465_1 := hx465_1
         have hw465_0 := hx465_0
         obtain rfl : ad457 = ad465 := (by injection e465)
         replace hx465_0 := (HB.out.cell (World.block_lt_of_cell? w _ hx465_0)).trans hx465_0
         replace hx465_1 := (HB.out.cell (World.block_lt_of_cell? w _ hx465_1)).trans hx465_1
         replace hx465_2 := (HB.out.cell (World.block_lt_of_cell? w _ hx465_2)).trans hx465_2
         replace p465 := eq_true p465
         replace q465 := eq_true q465
         have p466 : 0 ≤ ((ji67) : Int) := of_decide_eq_true (by first | (with_reducible assumption) | assumption)
         have q466 : (ji67) < (l0_4.length : Int) := of_decide_eq_true (by first | (with_reducible assumption) | assumption)
         obtain ⟨ad466, e466, hx466_0, hx466_1, hx466_2⟩ := at_T98 HR0_4.out (ji67) p466 q466
         have hw466_2 := hx466_2
         have hw466_1 := hx466_1
         have hw466_0 := hx466_0
         obtain rfl : ad457 = ad466 := (by injection e466)
         replace hx466_0 := (HB.out.cell (World.block_lt_of_cell? w _ hx466_0)).trans hx466_0
         replace hx466_1 := (HB.out.cell (World.block_lt_of_cell? w _ hx466_1)).trans hx466_1
         replace hx466_2 := (HB.out.cell (World.block_lt_of_cell? w _ hx466_2)).trans hx466_2
         replace p466 := eq_true p466
         replace q466 := eq_true q466
         have p467 : 0 ≤ ((ji67) : Int) := of_decide_eq_true (by first | (with_reducible assumption) | assumption)
         have q467 : (ji67) < (l0_4.length : Int) := of_decide_eq_true (by first | (with_reducible assumption) | assumption)
         obtain ⟨ad467, e467, hx467_0, hx467_1, hx467_2⟩ := at_T98 HR0_4.out (ji67) p467 q467
         have hw467_2 := hx467_2
         have hw467_1 := hx467_1
         have hw467_0 := hx467_0
         obtain rfl : ad457 = ad467 := (by injection e467)
         replace hx467_0 := (HB.out.cell (World.block_lt_of_cell? w _ hx467_0)).trans hx467_0
         replace hx467_1 := (HB.out.cell (World.block_lt_of_cell? w _ hx467_1)).trans hx467_1
         replace hx467_2 := (HB.out.cell (World.block_lt_of_cell? w _ hx467_2)).trans hx467_2
         replace p467 := eq_true p467
         replace q467 := eq_true q467
         refine start_ (n := 38) (S := fun w' => w'.cell? ⟨gb456, 0, none⟩ = some (.int .i64 a0_0) ∧ w'.cell? ⟨gb456, 1, none⟩ = some (.int .i64 a0_1) ∧ w'.cell? ⟨gb456, 2, none⟩ = some (.int .i64 a0_2) ∧ w'.cell? ⟨gb456, 3, none⟩ = some (.slice A0_3 l0_3.length c0_3) ∧ w'.cell? ⟨gb456, 4, none⟩ = some (.slice (some ad457) l0_4.length c0_4) ∧ w'.cell? ⟨gb458, 0, none⟩ = some (.int .i64 ((rd_T98 l0_4 x3_1).f0)) ∧ w'.cell? ⟨gb458, 1, none⟩ = some (.int .i64 ((rd_T98 l0_4 x3_1).f1)) ∧ w'.cell? ⟨gb458, 2, none⟩ = some (.int .i64 ((rd_T98 l0_4 x3_1).f2)) ∧ w'.cell? (ad457.add (((ji67)).toNat * 3)) = some (.int .i64 ((rd_T98 l0_4 (ji67)).f0)) ∧ w'.cell? ⟨(ad457.add (((ji67)).toNat * 3)).block, (ad457.add (((ji67)).toNat * 3)).off + 1, none⟩ = some (.int .i64 ((rd_T98 l0_4 (ji67)).f1)) ∧ w'.cell? ⟨(ad457.add (((ji67)).toNat * 3)).block, (ad457.add (((ji67)).toNat * 3)).off + 2, none⟩ = some (.int .i64 ((rd_T98 l0_4 (ji67)).f2)) ∧ w'.cell? (ad457.add (((ji67)).toNat * 3)) = some (.int .i64 ((rd_T98 l0_4 (ji67)).f0)) ∧ w'.cell? ⟨(ad457.add (((ji67)).toNat * 3)).block, (ad457.add (((ji67)).toNat * 3)).off + 1, none⟩ = some (.int .i64 ((rd_T98 l0_4 (ji67)).f1)) ∧ w'.cell? ⟨(ad457.add (((ji67)).toNat * 3)).block, (ad457.add (((ji67)).toNat * 3)).off + 2, none⟩ = some (.int .i64 ((rd_T98 l0_4 (ji67)).f2)) ∧ w'.cell? (ad457.add (((ji67)).toNat * 3)) = some (.int .i64 ((rd_T98 l0_4 (ji67)).f0)) ∧ w'.cell? ⟨(ad457.add (((ji67)).toNat * 3)).block, (ad457.add (((ji67)).toNat * 3)).off + 1, none⟩ = some (.int .i64 ((rd_T98 l0_4 (ji67)).f1)) ∧ w'.cell? ⟨(ad457.add (((ji67)).toNat * 3)).block, (ad457.add (((ji67)).toNat * 3)).off + 2, none⟩ = some (.int .i64 ((rd_T98 l0_4 (ji67)).f2))) (ds := []) q94_78 (by kernel_rfl) rfl rfl ⟨(blk_cell BK456.out 0).trans rfl, (blk_cell BK456.out 1).trans rfl, (blk_cell BK456.out 2).trans rfl, (blk_cell BK456.out 3).trans rfl, (blk_cell BK456.out 4).trans rfl, (blk_cell BK458.out 0).trans rfl, (blk_cell BK458.out 1).trans rfl, (blk_cell BK458.out 2).trans rfl, (bcl_ HB.out hw465_0 :), (bcl_ HB.out hw465_1 :), (bcl_ HB.out hw465_2 :), (bcl_ HB.out hw466_0 :), (bcl_ HB.out hw466_1 :), (bcl_ HB.out hw466_2 :), (bcl_ HB.out hw467_0 :), (bcl_ HB.out hw467_1 :), (bcl_ HB.out hw467_2 :)⟩ (fun hHeld => ?_); refine with_tabW spec_l12Tasks.tab13 spec_l12Tasks.bits13 (fun HT_ HW_ => ?_)
         generalize wr.drew = w74 at BK456 BK458 HB hx465_0 hx465_1 hx465_2 hx466_0 hx466_1 hx466_2 hx467_0 hx467_1 hx467_2 hHeld ⊢
         refine pup_ (i := 0) (N := some 90) HT_ rfl rfl (by kernel_rfl) (fun _ _ _ h => h) (Or.inl ⟨by rfl, by intro w'; go_simp; with_reducible rfl⟩) (by simp only [aq_]; rfl) ?_
         refine pup_ (i := 1) (N := some 91) HT_ rfl rfl (by kernel_rfl) (fun _ _ _ h => h) (Or.inl ⟨by rfl, by intro w'; go_simp; with_reducible rfl⟩) (by simp only [aq_]; rfl) ?_
         refine pup_ (i := 2) (N := some 92) HT_ rfl rfl (by kernel_rfl) (fun _ _ _ h => h) (Or.inl ⟨by rfl, by intro w'; go_simp; with_reducible rfl⟩) (by simp only [aq_]; rfl) ?_
         refine pup_ (i := 3) (N := some 93) HT_ rfl rfl (by kernel_rfl) (fun _ _ _ h => h) (Or.inl ⟨by rfl, by intro w'; go_simp; with_reducible rfl⟩) (by simp only [aq_]; rfl) ?_
         refine pup_ (i := 5) (N := some 95) HT_ rfl rfl (by kernel_rfl) (fun _ _ _ h => h) (Or.inl ⟨by rfl, by intro w'; go_simp; with_reducible rfl⟩) (by simp only [aq_]; rfl) ?_
         refine pup_ (i := 6) (N := some 96) HT_ rfl rfl (by kernel_rfl) (fun _ _ _ h => h) (Or.inl ⟨by rfl, by intro w'; go_simp; with_reducible rfl⟩) (by simp only [aq_]; rfl) ?_
         refine pup_ (i := 10) (N := some 100) HT_ rfl rfl (by kernel_rfl) (fun _ _ _ h => h) (Or.inl ⟨by rfl, by intro w'; go_simp; with_reducible rfl⟩) (by simp only [aq_]; rfl) ?_
         refine take_ (i := 4) (N := some 94) (v := ?_) (a' := ?_) q94_86 rfl rfl (take_ofW HT_.out HW_.out (by kernel_rfl)) (fun _ _ _ h => h) (Or.inl ⟨by rfl, ?_⟩) hHeld ?_ ?_
         rotate_left
         ·rintro w' ⟨s0, s1, s2, s3, s4, s5, s6, s7, s8, s9, s10, s11, s12, s13, s14, s15, s16⟩
          go_simp
          with_reducible rfl
         rotate_left
         ·simp only [aq_]
          rfl
         refine pup_ (i := 7) (N := some 97) HT_ rfl rfl (by kernel_rfl) (fun _ _ _ h => h) (Or.inl ⟨by rfl, by intro w'; go_simp; with_reducible rfl⟩) (by simp only [aq_]; rfl) ?_
         refine pup_ (i := 8) (N := some 98) HT_ rfl rfl (by kernel_rfl) (fun _ _ _ h => h) (Or.inl ⟨by rfl, by intro w'; go_simp; with_reducible rfl⟩) (by simp only [aq_]; rfl) ?_
         refine take_ (i := 9) (N := some 99) (v := ?_) (a' := ?_) q94_89 rfl rfl (take_ofW HT_.out HW_.out (by kernel_rfl)) (fun _ _ _ h => h) (Or.inl ⟨by rfl, ?_⟩) hHeld ?_ ?_
         rotate_left
         ·rintro w' ⟨s0, s1, s2, s3, s4, s5, s6, s7, s8, s9, s10, s11, s12, s13, s14, s15, s16⟩
          go_simp
          with_reducible rfl
         rotate_left
         ·simp only [aq_]
          rfl
         refine take_ (i := 11) (N := some 101) (v := ?_) (a' := ?_) q94_90 rfl rfl (take_ofW HT_.out HW_.out (by kernel_rfl)) (fun _ _ _ h => h) (Or.inl ⟨by rfl, ?_⟩) hHeld ?_ ?_
         rotate_left
         ·rintro w' ⟨s0, s1, s2, s3, s4, s5, s6, s7, s8, s9, s10, s11, s12, s13, s14, s15, s16⟩
          go_simp
          with_reducible rfl
         rotate_left
         ·simp only [aq_]
          rfl
         refine pup_ (i := 12) (N := some 102) HT_ rfl rfl (by kernel_rfl) (fun _ _ _ h => h) (Or.inl ⟨by rfl, by intro w'; go_simp; with_reducible rfl⟩) (by simp only [aq_]; rfl) ?_
         refine pup_ (i := 13) (N := some 103) HT_ rfl rfl (by kernel_rfl) (fun _ _ _ h => h) (Or.inl ⟨by rfl, by intro w'; go_simp; with_reducible rfl⟩) (by simp only [aq_]; rfl) ?_
         refine pup_ (i := 14) (N := some 104) HT_ rfl rfl (by kernel_rfl) (fun _ _ _ h => h) (Or.inl ⟨by rfl, by intro w'; go_simp; with_reducible rfl⟩) (by simp only [aq_]; rfl) ?_
         refine pup_ (i := 16) (N := some 106) HT_ rfl rfl (by kernel_rfl) (fun _ _ _ h => h) (Or.inl ⟨by rfl, by intro w'; go_simp; with_reducible rfl⟩) (by simp only [aq_]; rfl) ?_
         refine pup_ (i := 17) (N := some 107) HT_ rfl rfl (by kernel_rfl) (fun _ _ _ h => h) (Or.inl ⟨by rfl, by intro w'; go_simp; with_reducible rfl⟩) (by simp only [aq_]; rfl) ?_
         refine pup_ (i := 21) (N := some 111) HT_ rfl rfl (by kernel_rfl) (fun _ _ _ h => h) (Or.inl ⟨by rfl, by intro w'; go_simp; with_reducible rfl⟩) (by simp only [aq_]; rfl) ?_
         refine take_ (i := 15) (N := some 105) (v := ?_) (a' := ?_) q94_120 rfl rfl (take_ofW HT_.out HW_.out (by kernel_rfl)) (fun _ _ _ h => h) (Or.inl ⟨by rfl, ?_⟩) hHeld ?_ ?_
         rotate_left
         ·rintro w' ⟨s0, s1, s2, s3, s4, s5, s6, s7, s8, s9, s10, s11, s12, s13, s14, s15, s16⟩
          go_simp
          with_reducible rfl
         rotate_left
         ·simp only [aq_]
          rfl
         refine pup_ (i := 18) (N := some 108) HT_ rfl rfl (by kernel_rfl) (fun _ _ _ h => h) (Or.inl ⟨by rfl, by intro w'; go_simp; with_reducible rfl⟩) (by simp only [aq_]; rfl) ?_
         refine pup_ (i := 19) (N := some 109) HT_ rfl rfl (by kernel_rfl) (fun _ _ _ h => h) (Or.inl ⟨by rfl, by intro w'; go_simp; with_reducible rfl⟩) (by simp only [aq_]; rfl) ?_
         refine take_ (i := 20) (N := some 110) (v := ?_) (a' := ?_) q94_100 rfl rfl (take_ofW HT_.out HW_.out (by kernel_rfl)) (fun _ _ _ h => h) (Or.inl ⟨by rfl, ?_⟩) hHeld ?_ ?_
         rotate_left
         ·rintro w' ⟨s0, s1, s2, s3, s4, s5, s6, s7, s8, s9, s10, s11, s12, s13, s14, s15, s16⟩
          go_simp
          with_reducible rfl
         rotate_left
         ·simp only [aq_]
          rfl
         refine take_ (i := 22) (N := some 112) (v := ?_) (a' := ?_) q94_101 rfl rfl (take_ofW HT_.out HW_.out (by kernel_rfl)) (fun _ _ _ h => h) (Or.inl ⟨by rfl, ?_⟩) hHeld ?_ ?_
         rotate_left
         ·rintro w' ⟨s0, s1, s2, s3, s4, s5, s6, s7, s8, s9, s10, s11, s12, s13, s14, s15, s16⟩
          go_simp
          with_reducible rfl
         rotate_left
         ·simp only [aq_]
          rfl
         refine pup_ (i := 23) (N := some 113) HT_ rfl rfl (by kernel_rfl) (fun _ _ _ h => h) (Or.inl ⟨by rfl, by intro w'; go_simp; with_reducible rfl⟩) (by simp only [aq_]; rfl) ?_
         refine pup_ (i := 24) (N := some 114) HT_ rfl rfl (by kernel_rfl) (fun _ _ _ h => h) (Or.inl ⟨by rfl, by intro w'; go_simp; with_reducible rfl⟩) (by simp only [aq_]; rfl) ?_
         refine pup_ (i := 25) (N := some 115) HT_ rfl rfl (by kernel_rfl) (fun _ _ _ h => h) (Or.inl ⟨by rfl, by intro w'; go_simp; with_reducible rfl⟩) (by simp only [aq_]; rfl) ?_
         refine pup_ (i := 27) (N := some 117) HT_ rfl rfl (by kernel_rfl) (fun _ _ _ h => h) (Or.inl ⟨by rfl, by intro w'; go_simp; with_reducible rfl⟩) (by simp only [aq_]; rfl) ?_
         refine pup_ (i := 28) (N := some 118) HT_ rfl rfl (by kernel_rfl) (fun _ _ _ h => h) (Or.inl ⟨by rfl, by intro w'; go_simp; with_reducible rfl⟩) (by simp only [aq_]; rfl) ?_
         refine pup_ (i := 32) (N := some 122) HT_ rfl rfl (by kernel_rfl) (fun _ _ _ h => h) (Or.inl ⟨by rfl, by intro w'; go_simp; with_reducible rfl⟩) (by simp only [aq_]; rfl) ?_
         refine take_ (i := 26) (N := some 116) (v := ?_) (a' := ?_) q94_126 rfl rfl (take_ofW HT_.out HW_.out (by kernel_rfl)) (fun _ _ _ h => h) (Or.inl ⟨by rfl, ?_⟩) hHeld ?_ ?_
         rotate_left
         ·rintro w' ⟨s0, s1, s2, s3, s4, s5, s6, s7, s8, s9, s10, s11, s12, s13, s14, s15, s16⟩
          go_simp
          with_reducible rfl
         rotate_left
         ·simp only [aq_]
          rfl
         refine pup_ (i := 29) (N := some 119) HT_ rfl rfl (by kernel_rfl) (fun _ _ _ h => h) (Or.inl ⟨by rfl, by intro w'; go_simp; with_reducible rfl⟩) (by simp only [aq_]; rfl) ?_
         refine pup_ (i := 30) (N := some 120) HT_ rfl rfl (by kernel_rfl) (fun _ _ _ h => h) (Or.inl ⟨by rfl, by intro w'; go_simp; with_reducible rfl⟩) (by simp only [aq_]; rfl) ?_
         refine take_ (i := 31) (N := some 121) (v := ?_) (a' := ?_) q94_111 rfl rfl (take_ofW HT_.out HW_.out (by kernel_rfl)) (fun _ _ _ h => h) (Or.inl ⟨by rfl, ?_⟩) hHeld ?_ ?_
         rotate_left
         ·rintro w' ⟨s0, s1, s2, s3, s4, s5, s6, s7, s8, s9, s10, s11, s12, s13, s14, s15, s16⟩
          go_simp
          with_reducible rfl
         rotate_left
         ·simp only [aq_]
          rfl
         refine take_ (i := 33) (N := some 123) (v := ?_) (a' := ?_) q94_112 rfl rfl (take_ofW HT_.out HW_.out (by kernel_rfl)) (fun _ _ _ h => h) (Or.inl ⟨by rfl, ?_⟩) hHeld ?_ ?_
         rotate_left
         ·rintro w' ⟨s0, s1, s2, s3, s4, s5, s6, s7, s8, s9, s10, s11, s12, s13, s14, s15, s16⟩
          go_simp
          with_reducible rfl
         rotate_left
         ·simp only [aq_]
          rfl
         refine pup_ (i := 34) (N := some 124) HT_ rfl rfl (by kernel_rfl) (fun _ _ _ h => h) (Or.inl ⟨by rfl, by intro w'; go_simp; with_reducible rfl⟩) (by simp only [aq_]; rfl) ?_
         refine pup_ (i := 35) (N := some 125) HT_ rfl rfl (by kernel_rfl) (fun _ _ _ h => h) (Or.inl ⟨by rfl, by intro w'; go_simp; with_reducible rfl⟩) (by simp only [aq_]; rfl) ?_
         refine pup_ (i := 36) (N := some 126) HT_ rfl rfl (by kernel_rfl) (fun _ _ _ h => h) (Or.inl ⟨by rfl, by intro w'; go_simp; with_reducible rfl⟩) (by simp only [aq_]; rfl) ?_
         refine pup_ (i := 37) (N := some 127) HT_ rfl rfl (by kernel_rfl) (fun _ _ _ h => h) (Or.inl ⟨by rfl, by intro w'; go_simp; with_reducible rfl⟩) (by simp only [aq_]; rfl) ?_
         refine done_ (done_of HT_.out (by kernel_rfl)) ?_
         try go_wp2
         go_ret
         exact ⟨by first | rfl | (simp [errW_none, errW_some] <;> rfl) | (simp only [← hji67]; first | rfl | (simp [errW_none, errW_some] <;> rfl)) | (simp [*, errW_none, errW_some] <;> rfl), by repeat (first | (with_reducible first | exact bw HB.out | refine bset ?_ | apply bA | apply bN | apply bD) | exact HB.out)⟩
        rw [if_neg c73] at H
        have c73b0 : decide (((rd_T98 l0_4 x3_1).f1) ≤ ((rd_T98 l0_4 (ji67)).f1)) = false := decide_eq_false c73
        clear c73
        have H' := Aside0.mk H
        clear H
        try go_wp2
        have n0_ := Aside0.mk (blk_drew BK456.out)
        have n1_ := Aside0.mk (blk_drew BK458.out)
        have n2_ := Aside0.mk (below_drew1 HB.out)
        replace BK456 := n0_
        replace BK458 := n1_
        replace HB := n2_
        clear n0_ n1_ n2_
        have p465 : 0 ≤ ((ji67) : Int) := of_decide_eq_true (by first | (with_reducible assumption) | assumption)
        have q465 : (ji67) < (l0_4.length : Int) := of_decide_eq_true (by first | (with_reducible assumption) | assumption)
        obtain ⟨ad465, e465, hx465_0, hx465_1, hx465_2⟩ := at_T98 HR0_4.out (ji67) p465 q465
        have hw465_2 := hx465_2
        have hw465_1 := hx465_1
        have hw465_0 := hx465_0
        obtain rfl : ad457 = ad465 := (by injection e465)
        replace hx465_0 := (HB.out.cell (World.block_lt_of_cell? w _ hx465_0)).trans hx465_0
        replace hx465_1 := (HB.out.cell (World.block_lt_of_cell? w _ hx465_1)).trans hx465_1
        replace hx465_2 := (HB.out.cell (World.block_lt_of_cell? w _ hx465_2)).trans hx465_2
        replace p465 := eq_true p465
        replace q465 := eq_true q465
        have p466 : 0 ≤ ((ji67) : Int) := of_decide_eq_true (by first | (with_reducible assumption) | assumption)
        have q466 : (ji67) < (l0_4.length : Int) := of_decide_eq_true (by first | (with_reducible assumption) | assumption)
        obtain ⟨ad466, e466, hx466_0, hx466_1, hx466_2⟩ := at_T98 HR0_4.out (ji67) p466 q466
        have hw466_2 := hx466_2
        have hw466_1 := hx466_1
        have hw466_0 := hx466_0
        obtain rfl : ad457 = ad466 := (by injection e466)
        replace hx466_0 := (HB.out.cell (World.block_lt_of_cell? w _ hx466_0)).trans hx466_0
        replace hx466_1 := (HB.out.cell (World.block_lt_of_cell? w _ hx466_1)).trans hx466_1
        replace hx466_2 := (HB.out.cell (World.block_lt_of_cell? w _ hx466_2)).trans hx466_2
        replace p466 := eq_true p466
        replace q466 := eq_true q466
        have p467 : 0 ≤ ((ji67) : Int) := of_decide_eq_true (by first | (with_reducible assumption) | assumption)
        have q467 : (ji67) < (l0_4.length : Int) := of_decide_eq_true (by first | (with_reducible assumption) | assumption)
        obtain ⟨ad467, e467, hx467_0, hx467_1, hx467_2⟩ := at_T98 HR0_4.out (ji67) p467 q467
        have hw467_2 := hx467_2
        have hw467_1 := hx467_1
        have hw467_0 := hx467_0
        obtain rfl : ad457 = ad467 := (by injection e467)
        replace hx467_0 := (HB.out.cell (World.block_lt_of_cell? w _ hx467_0)).trans hx467_0
        replace hx467_1 := (HB.out.cell (World.block_lt_of_cell? w _ hx467_1)).trans hx467_1
        replace hx467_2 := (HB.out.cell (World.block_lt_of_cell? w _ hx467_2)).trans hx467_2
        replace p467 := eq_true p467
        replace q467 := eq_true q467
        refine start_ (n := 38) (S := fun w' => w'.cell? ⟨gb456, 0, none⟩ = some (.int .i64 a0_0) ∧ w'.cell? ⟨gb456, 1, none⟩ = some (.int .i64 a0_1) ∧ w'.cell? ⟨gb456, 2, none⟩ = some (.int .i64 a0_2) ∧ w'.cell? ⟨gb456, 3, none⟩ = some (.slice A0_3 l0_3.length c0_3) ∧ w'.cell? ⟨gb456, 4, none⟩ = some (.slice (some ad457) l0_4.length c0_4) ∧ w'.cell? ⟨gb458, 0, none⟩ = some (.int .i64 ((rd_T98 l0_4 x3_1).f0)) ∧ w'.cell? ⟨gb458, 1, none⟩ = some (.int .i64 ((rd_T98 l0_4 x3_1).f1)) ∧ w'.cell? ⟨gb458, 2, none⟩ = some (.int .i64 ((rd_T98 l0_4 x3_1).f2)) ∧ w'.cell? (ad457.add (((ji67)).toNat * 3)) = some (.int .i64 ((rd_T98 l0_4 (ji67)).f0)) ∧ w'.cell? ⟨(ad457.add (((ji67)).toNat * 3)).block, (ad457.add (((ji67)).toNat * 3)).off + 1, none⟩ = some (.int .i64 ((rd_T98 l0_4 (ji67)).f1)) ∧ w'.cell? ⟨(ad457.add (((ji67)).toNat * 3)).block, (ad457.add (((ji67)).toNat * 3)).off + 2, none⟩ = some (.int .i64 ((rd_T98 l0_4 (ji67)).f2)) ∧ w'.cell? (ad457.add (((ji67)).toNat * 3)) = some (.int .i64 ((rd_T98 l0_4 (ji67)).f0)) ∧ w'.cell? ⟨(ad457.add (((ji67)).toNat * 3)).block, (ad457.add (((ji67)).toNat * 3)).off + 1, none⟩ = some (.int .i64 ((rd_T98 l0_4 (ji67)).f1)) ∧ w'.cell? ⟨(ad457.add (((ji67)).toNat * 3)).block, (ad457.add (((ji67)).toNat * 3)).off + 2, none⟩ = some (.int .i64 ((rd_T98 l0_4 (ji67)).f2)) ∧ w'.cell? (ad457.add (((ji67)).toNat * 3)) = some (.int .i64 ((rd_T98 l0_4 (ji67)).f0)) ∧ w'.cell? ⟨(ad457.add (((ji67)).toNat * 3)).block, (ad457.add (((ji67)).toNat * 3)).off + 1, none⟩ = some (.int .i64 ((rd_T98 l0_4 (ji67)).f1)) ∧ w'.cell? ⟨(ad457.add (((ji67)).toNat * 3)).block, (ad457.add (((ji67)).toNat * 3)).off + 2, none⟩ = some (.int .i64 ((rd_T98 l0_4 (ji67)).f2))) (ds := []) q94_78 (by kernel_rfl) rfl rfl ⟨(blk_cell BK456.out 0).trans rfl, (blk_cell BK456.out 1).trans rfl, (blk_cell BK456.out 2).trans rfl, (blk_cell BK456.out 3).trans rfl, (blk_cell BK456.out 4).trans rfl, (blk_cell BK458.out 0).trans rfl, (blk_cell BK458.out 1).trans rfl, (blk_cell BK458.out 2).trans rfl, (bcl_ HB.out hw465_0 :), (bcl_ HB.out hw465_1 :), (bcl_ HB.out hw465_2 :), (bcl_ HB.out hw466_0 :), (bcl_ HB.out hw466_1 :), (bcl_ HB.out hw466_2 :), (bcl_ HB.out hw467_0 :), (bcl_ HB.out hw467_1 :), (bcl_ HB.out hw467_2 :)⟩ (fun hHeld => ?_); refine with_tabW spec_l12Tasks.tab13 spec_l12Tasks.bits13 (fun HT_ HW_ => ?_)
        generalize wr.drew = w75 at BK456 BK458 HB hx465_0 hx465_1 hx465_2 hx466_0 hx466_1 hx466_2 hx467_0 hx467_1 hx467_2 hHeld ⊢
        refine pup_ (i := 0) (N := some 90) HT_ rfl rfl (by kernel_rfl) (fun _ _ _ h => h) (Or.inl ⟨by rfl, by intro w'; go_simp; with_reducible rfl⟩) (by simp only [aq_]; rfl) ?_
        refine pup_ (i := 1) (N := some 91) HT_ rfl rfl (by kernel_rfl) (fun _ _ _ h => h) (Or.inl ⟨by rfl, by intro w'; go_simp; with_reducible rfl⟩) (by simp only [aq_]; rfl) ?_
        refine pup_ (i := 2) (N := some 92) HT_ rfl rfl (by kernel_rfl) (fun _ _ _ h => h) (Or.inl ⟨by rfl, by intro w'; go_simp; with_reducible rfl⟩) (by simp only [aq_]; rfl) ?_
        refine pup_ (i := 3) (N := some 93) HT_ rfl rfl (by kernel_rfl) (fun _ _ _ h => h) (Or.inl ⟨by rfl, by intro w'; go_simp; with_reducible rfl⟩) (by simp only [aq_]; rfl) ?_
        refine pup_ (i := 5) (N := some 95) HT_ rfl rfl (by kernel_rfl) (fun _ _ _ h => h) (Or.inl ⟨by rfl, by intro w'; go_simp; with_reducible rfl⟩) (by simp only [aq_]; rfl) ?_
        refine pup_ (i := 6) (N := some 96) HT_ rfl rfl (by kernel_rfl) (fun _ _ _ h => h) (Or.inl ⟨by rfl, by intro w'; go_simp; with_reducible rfl⟩) (by simp only [aq_]; rfl) ?_
        refine pup_ (i := 10) (N := some 100) HT_ rfl rfl (by kernel_rfl) (fun _ _ _ h => h) (Or.inl ⟨by rfl, by intro w'; go_simp; with_reducible rfl⟩) (by simp only [aq_]; rfl) ?_
        refine take_ (i := 4) (N := some 94) (v := ?_) (a' := ?_) q94_86 rfl rfl (take_ofW HT_.out HW_.out (by kernel_rfl)) (fun _ _ _ h => h) (Or.inl ⟨by rfl, ?_⟩) hHeld ?_ ?_
        rotate_left
        ·rintro w' ⟨s0, s1, s2, s3, s4, s5, s6, s7, s8, s9, s10, s11, s12, s13, s14, s15, s16⟩
         go_simp
         with_reducible rfl
        rotate_left
        ·simp only [aq_]
         rfl
        refine pup_ (i := 7) (N := some 97) HT_ rfl rfl (by kernel_rfl) (fun _ _ _ h => h) (Or.inl ⟨by rfl, by intro w'; go_simp; with_reducible rfl⟩) (by simp only [aq_]; rfl) ?_
        refine pup_ (i := 8) (N := some 98) HT_ rfl rfl (by kernel_rfl) (fun _ _ _ h => h) (Or.inl ⟨by rfl, by intro w'; go_simp; with_reducible rfl⟩) (by simp only [aq_]; rfl) ?_
        refine take_ (i := 9) (N := some 99) (v := ?_) (a' := ?_) q94_89 rfl rfl (take_ofW HT_.out HW_.out (by kernel_rfl)) (fun _ _ _ h => h) (Or.inl ⟨by rfl, ?_⟩) hHeld ?_ ?_
        rotate_left
        ·rintro w' ⟨s0, s1, s2, s3, s4, s5, s6, s7, s8, s9, s10, s11, s12, s13, s14, s15, s16⟩
         go_simp
         with_reducible rfl
        rotate_left
        ·simp only [aq_]
         rfl
        refine take_ (i := 11) (N := some 101) (v := ?_) (a' := ?_) q94_90 rfl rfl (take_ofW HT_.out HW_.out (by kernel_rfl)) (fun _ _ _ h => h) (Or.inl ⟨by rfl, ?_⟩) hHeld ?_ ?_
        rotate_left
        ·rintro w' ⟨s0, s1, s2, s3, s4, s5, s6, s7, s8, s9, s10, s11, s12, s13, s14, s15, s16⟩
         go_simp
         with_reducible rfl
        rotate_left
        ·simp only [aq_]
         rfl
        refine pup_ (i := 12) (N := some 102) HT_ rfl rfl (by kernel_rfl) (fun _ _ _ h => h) (Or.inl ⟨by rfl, by intro w'; go_simp; with_reducible rfl⟩) (by simp only [aq_]; rfl) ?_
        refine pup_ (i := 13) (N := some 103) HT_ rfl rfl (by kernel_rfl) (fun _ _ _ h => h) (Or.inl ⟨by rfl, by intro w'; go_simp; with_reducible rfl⟩) (by simp only [aq_]; rfl) ?_
        refine pup_ (i := 14) (N := some 104) HT_ rfl rfl (by kernel_rfl) (fun _ _ _ h => h) (Or.inl ⟨by rfl, by intro w'; go_simp; with_reducible rfl⟩) (by simp only [aq_]; rfl) ?_
        refine pup_ (i := 16) (N := some 106) HT_ rfl rfl (by kernel_rfl) (fun _ _ _ h => h) (Or.inl ⟨by rfl, by intro w'; go_simp; with_reducible rfl⟩) (by simp only [aq_]; rfl) ?_
        refine pup_ (i := 17) (N := some 107) HT_ rfl rfl (by kernel_rfl) (fun _ _ _ h => h) (Or.inl ⟨by rfl, by intro w'; go_simp; with_reducible rfl⟩) (by simp only [aq_]; rfl) ?_
        refine pup_ (i := 21) (N := some 111) HT_ rfl rfl (by kernel_rfl) (fun _ _ _ h => h) (Or.inl ⟨by rfl, by intro w'; go_simp; with_reducible rfl⟩) (by simp only [aq_]; rfl) ?_
        refine take_ (i := 15) (N := some 105) (v := ?_) (a' := ?_) q94_120 rfl rfl (take_ofW HT_.out HW_.out (by kernel_rfl)) (fun _ _ _ h => h) (Or.inl ⟨by rfl, ?_⟩) hHeld ?_ ?_
        rotate_left
        ·rintro w' ⟨s0, s1, s2, s3, s4, s5, s6, s7, s8, s9, s10, s11, s12, s13, s14, s15, s16⟩
         go_simp
         with_reducible rfl
        rotate_left
        ·simp only [aq_]
         rfl
        refine pup_ (i := 18) (N := some 108) HT_ rfl rfl (by kernel_rfl) (fun _ _ _ h => h) (Or.inl ⟨by rfl, by intro w'; go_simp; with_reducible rfl⟩) (by simp only [aq_]; rfl) ?_
        refine pup_ (i := 19) (N := some 109) HT_ rfl rfl (by kernel_rfl) (fun _ _ _ h => h) (Or.inl ⟨by rfl, by intro w'; go_simp; with_reducible rfl⟩) (by simp only [aq_]; rfl) ?_
        refine take_ (i := 20) (N := some 110) (v := ?_) (a' := ?_) q94_100 rfl rfl (take_ofW HT_.out HW_.out (by kernel_rfl)) (fun _ _ _ h => h) (Or.inl ⟨by rfl, ?_⟩) hHeld ?_ ?_
        rotate_left
        ·rintro w' ⟨s0, s1, s2, s3, s4, s5, s6, s7, s8, s9, s10, s11, s12, s13, s14, s15, s16⟩
         go_simp
         with_reducible rfl
        rotate_left
        ·simp only [aq_]
         rfl
        refine take_ (i := 22) (N := some 112) (v := ?_) (a' := ?_) q94_101 rfl rfl (take_ofW HT_.out HW_.out (by kernel_rfl)) (fun _ _ _ h => h) (Or.inl ⟨by rfl, ?_⟩) hHeld ?_ ?_
        rotate_left
        ·rintro w' ⟨s0, s1, s2, s3, s4, s5, s6, s7, s8, s9, s10, s11, s12, s13, s14, s15, s16⟩
         go_simp
         with_reducible rfl
        rotate_left
        ·simp only [aq_]
         rfl
        refine pup_ (i := 23) (N := some 113) HT_ rfl rfl (by kernel_rfl) (fun _ _ _ h => h) (Or.inl ⟨by rfl, by intro w'; go_simp; with_reducible rfl⟩) (by simp only [aq_]; rfl) ?_
        refine pup_ (i := 24) (N := some 114) HT_ rfl rfl (by kernel_rfl) (fun _ _ _ h => h) (Or.inl ⟨by rfl, by intro w'; go_simp; with_reducible rfl⟩) (by simp only [aq_]; rfl) ?_
        refine pup_ (i := 25) (N := some 115) HT_ rfl rfl (by kernel_rfl) (fun _ _ _ h => h) (Or.inl ⟨by rfl, by intro w'; go_simp; with_reducible rfl⟩) (by simp only [aq_]; rfl) ?_
        refine pup_ (i := 27) (N := some 117) HT_ rfl rfl (by kernel_rfl) (fun _ _ _ h => h) (Or.inl ⟨by rfl, by intro w'; go_simp; with_reducible rfl⟩) (by simp only [aq_]; rfl) ?_
        refine pup_ (i := 28) (N := some 118) HT_ rfl rfl (by kernel_rfl) (fun _ _ _ h => h) (Or.inl ⟨by rfl, by intro w'; go_simp; with_reducible rfl⟩) (by simp only [aq_]; rfl) ?_
        refine pup_ (i := 32) (N := some 122) HT_ rfl rfl (by kernel_rfl) (fun _ _ _ h => h) (Or.inl ⟨by rfl, by intro w'; go_simp; with_reducible rfl⟩) (by simp only [aq_]; rfl) ?_
        refine take_ (i := 26) (N := some 116) (v := ?_) (a' := ?_) q94_126 rfl rfl (take_ofW HT_.out HW_.out (by kernel_rfl)) (fun _ _ _ h => h) (Or.inl ⟨by rfl, ?_⟩) hHeld ?_ ?_
        rotate_left
        ·rintro w' ⟨s0, s1, s2, s3, s4, s5, s6, s7, s8, s9, s10, s11, s12, s13, s14, s15, s16⟩
         go_simp
         with_reducible rfl
        rotate_left
        ·simp only [aq_]
         rfl
        refine pup_ (i := 29) (N := some 119) HT_ rfl rfl (by kernel_rfl) (fun _ _ _ h => h) (Or.inl ⟨by rfl, by intro w'; go_simp; with_reducible rfl⟩) (by simp only [aq_]; rfl) ?_
        refine pup_ (i := 30) (N := some 120) HT_ rfl rfl (by kernel_rfl) (fun _ _ _ h => h) (Or.inl ⟨by rfl, by intro w'; go_simp; with_reducible rfl⟩) (by simp only [aq_]; rfl) ?_
        refine take_ (i := 31) (N := some 121) (v := ?_) (a' := ?_) q94_111 rfl rfl (take_ofW HT_.out HW_.out (by kernel_rfl)) (fun _ _ _ h => h) (Or.inl ⟨by rfl, ?_⟩) hHeld ?_ ?_
        rotate_left
        ·rintro w' ⟨s0, s1, s2, s3, s4, s5, s6, s7, s8, s9, s10, s11, s12, s13, s14, s15, s16⟩
         go_simp
         with_reducible rfl
        rotate_left
        ·simp only [aq_]
         rfl
        refine take_ (i := 33) (N := some 123) (v := ?_) (a' := ?_) q94_112 rfl rfl (take_ofW HT_.out HW_.out (by kernel_rfl)) (fun _ _ _ h => h) (Or.inl ⟨by rfl, ?_⟩) hHeld ?_ ?_
        rotate_left
        ·rintro w' ⟨s0, s1, s2, s3, s4, s5, s6, s7, s8, s9, s10, s11, s12, s13, s14, s15, s16⟩
         go_simp
         with_reducible rfl
        rotate_left
        ·simp only [aq_]
         rfl
        refine pup_ (i := 34) (N := some 124) HT_ rfl rfl (by kernel_rfl) (fun _ _ _ h => h) (Or.inl ⟨by rfl, by intro w'; go_simp; with_reducible rfl⟩) (by simp only [aq_]; rfl) ?_
        refine pup_ (i := 35) (N := some 125) HT_ rfl rfl (by kernel_rfl) (fun _ _ _ h => h) (Or.inl ⟨by rfl, by intro w'; go_simp; with_reducible rfl⟩) (by simp only [aq_]; rfl) ?_
        refine pup_ (i := 36) (N := some 126) HT_ rfl rfl (by kernel_rfl) (fun _ _ _ h => h) (Or.inl ⟨by rfl, by intro w'; go_simp; with_reducible rfl⟩) (by simp only [aq_]; rfl) ?_
        refine pup_ (i := 37) (N := some 127) HT_ rfl rfl (by kernel_rfl) (fun _ _ _ h => h) (Or.inl ⟨by rfl, by intro w'; go_simp; with_reducible rfl⟩) (by simp only [aq_]; rfl) ?_
        refine done_ (done_of HT_.out (by kernel_rfl)) ?_
        try go_wp2
        go_roundg k3
        case measure => have := HK1.out; have := HJ4.out; have := HK3.out; omega
        case rel => exact ⟨(wrap64 (x3_1 + 1)), (by first | rfl | (simp; done) | (simp [*]; done)), H', ⟨by have := HK1.out; have := HJ4.out; have := HK3.out; omega⟩, ⟨bs BK456.out⟩, ⟨by repeat (first | (with_reducible first | exact bw HB.out | refine bset ?_ | apply bA | apply bN | apply bD) | exact HB.out)⟩⟩
       rw [if_pos c26] at H
       have c26b0 : decide (x5_3 < x3_1) = true := decide_eq_true c26
       clear c26
       by_cases c27 : 0 ≤ x5_3
       rotate_left
       ·rw [if_neg c27] at H
        exact absurd H (by simp)
       rw [if_pos c27] at H
       have c27b0 : decide (0 ≤ x5_3) = true := decide_eq_true c27
       clear c27
       by_cases c28 : x5_3 < (l0_4.length : Int)
       rotate_left
       ·rw [if_neg c28] at H
        exact absurd H (by simp)
       rw [if_pos c28] at H
       have c28b0 : decide (x5_3 < (l0_4.length : Int)) = true := decide_eq_true c28
       clear c28
       by_cases c29 : ((rd_T98 l0_4 x5_3).f0) = ((rd_T98 l0_4 x3_1).f0)
       ·rw [if_pos c29] at H
        have c29b0 : (((rd_T98 l0_4 x5_3).f0) == ((rd_T98 l0_4 x3_1).f0)) = true := beq_iff_eq.mpr c29
        have c29b1 : (((rd_T98 l0_4 x5_3).f0) != ((rd_T98 l0_4 x3_1).f0)) = false := bne_eq_false_iff_eq.mpr c29
        clear c29
        obtain rfl := Option.some.inj H
        have hnb30 := NB456_458.out
        have hnc30 := NB458_456.out
        obtain ⟨hcz31_0, hcz31_1, hcz31_2, hcz31_3, hcz31_4, hfz31_0, hfz31_1, hfz31_2, hfz31_3, hfz31_4⟩ := bz5 BK456.out
        have p462 : 0 ≤ (x5_3 : Int) := of_decide_eq_true (by first | (with_reducible assumption) | assumption)
        have q462 : x5_3 < (l0_4.length : Int) := of_decide_eq_true (by first | (with_reducible assumption) | assumption)
        obtain ⟨ad462, e462, hx462_0, hx462_1, hx462_2⟩ := at_T98 HR0_4.out x5_3 p462 q462
        obtain rfl : ad457 = ad462 := (by injection e462)
        replace hx462_0 := (HB.out.cell (World.block_lt_of_cell? w _ hx462_0)).trans hx462_0
        replace hx462_1 := (HB.out.cell (World.block_lt_of_cell? w _ hx462_1)).trans hx462_1
        replace hx462_2 := (HB.out.cell (World.block_lt_of_cell? w _ hx462_2)).trans hx462_2
        replace p462 := eq_true p462
        replace q462 := eq_true q462
        try go_wp2_with (first | ((with_reducible refine gate_dst (N := 6) rfl ?_); refine box_event ?hg (N := 6) ?hd (cs := #[.int .i64 0, .int .i64 0, .int .i64 0]) (t := 98) ?hr ?_; (case hd => rfl); (case hg => rfl); (case hr => first | (go_simp; done) | (go_simp; rfl)); intro gb463 hg w32 hbox hb; have n0_ := Aside0.mk (blk_below (bs BK456.out) hb); have n1_ := Aside0.mk (blk_below (bs BK458.out) hb); have n2_ := Aside0.mk (below_step (by repeat (first | (with_reducible first | exact bw HB.out | refine bset ?_ | apply bA | apply bN | apply bD) | exact HB.out)) hb); have n3_ := Aside0.mk (hbox); have n4_ := Aside0.mk ((by rw [hg]; exact (below_size (by repeat (first | (with_reducible first | exact bw HB.out | refine bset ?_ | apply bA | apply bN | apply bD) | exact HB.out))) : w.heap.size ≤ gb463)); have n5_ := Aside0.mk ((by rw [hg]; exact (below_size (by repeat (first | (with_reducible first | exact bw HB.out | refine bset ?_ | apply bA | apply bN | apply bD) | exact HB.out))) : w.heap.size ≤ gb463)); have n6_ := ne_ hg BK456.out; have n7_ := en_ hg BK456.out; have n8_ := ne_ hg BK458.out; have n9_ := en_ hg BK458.out; replace BK456 := n0_; replace BK458 := n1_; replace HB := n2_; have BK463 := n3_; have GW463 := n4_; have GE463 := n5_; have NB456_463 := n6_; have NB463_456 := n7_; have NB458_463 := n8_; have NB463_458 := n9_; clear n0_ n1_ n2_ n3_ n4_ n5_ n6_ n7_ n8_ n9_; clear hb hbox hg; have hnb33 := NB463_456.out; have hnc33 := NB456_463.out; have hnb34 := NB463_458.out; have hnc34 := NB458_463.out; obtain ⟨hcz35_0, hcz35_1, hcz35_2, hfz35_0, hfz35_1, hfz35_2⟩ := bz3 BK463.out))
        have n0_ : Aside0 ((((w32.setCell ⟨gb463, 0, none⟩ (.int .i64 ((rd_T98 l0_4 x5_3).f0))).setCell ⟨gb463, 1, none⟩ (.int .i64 ((rd_T98 l0_4 x5_3).f1))).setCell ⟨gb463, 2, none⟩ (.int .i64 ((rd_T98 l0_4 x5_3).f2))).heap[gb456]? = some (.cells #[.int .i64 a0_0, .int .i64 a0_1, .int .i64 a0_2, .slice A0_3 l0_3.length c0_3, .slice (some ad457) l0_4.length c0_4] 43 (0, 0))) := ⟨by (with_reducible repeat (first | refine blk_drewN ?_ _ | refine blk_drew ?_ | refine blk_alloc ?_ _)); refine blk_far ?_ NB456_463.out _; (with_reducible repeat (first | refine blk_drewN ?_ _ | refine blk_drew ?_ | refine blk_alloc ?_ _)); refine blk_far ?_ NB456_463.out _; (with_reducible repeat (first | refine blk_drewN ?_ _ | refine blk_drew ?_ | refine blk_alloc ?_ _)); refine blk_far ?_ NB456_463.out _; exact bs BK456.out⟩
        have n1_ : Aside0 ((((w32.setCell ⟨gb463, 0, none⟩ (.int .i64 ((rd_T98 l0_4 x5_3).f0))).setCell ⟨gb463, 1, none⟩ (.int .i64 ((rd_T98 l0_4 x5_3).f1))).setCell ⟨gb463, 2, none⟩ (.int .i64 ((rd_T98 l0_4 x5_3).f2))).heap[gb458]? = some (.cells #[.int .i64 ((rd_T98 l0_4 x3_1).f0), .int .i64 ((rd_T98 l0_4 x3_1).f1), .int .i64 ((rd_T98 l0_4 x3_1).f2)] 98 (0, 0))) := ⟨by (with_reducible repeat (first | refine blk_drewN ?_ _ | refine blk_drew ?_ | refine blk_alloc ?_ _)); refine blk_far ?_ NB458_463.out _; (with_reducible repeat (first | refine blk_drewN ?_ _ | refine blk_drew ?_ | refine blk_alloc ?_ _)); refine blk_far ?_ NB458_463.out _; (with_reducible repeat (first | refine blk_drewN ?_ _ | refine blk_drew ?_ | refine blk_alloc ?_ _)); refine blk_far ?_ NB458_463.out _; exact bs BK458.out⟩
        have n2_ : Aside0 ((((w32.setCell ⟨gb463, 0, none⟩ (.int .i64 ((rd_T98 l0_4 x5_3).f0))).setCell ⟨gb463, 1, none⟩ (.int .i64 ((rd_T98 l0_4 x5_3).f1))).setCell ⟨gb463, 2, none⟩ (.int .i64 ((rd_T98 l0_4 x5_3).f2))).heap[gb463]? = some (.cells #[.int .i64 ((rd_T98 l0_4 x5_3).f0), .int .i64 ((rd_T98 l0_4 x5_3).f1), .int .i64 ((rd_T98 l0_4 x5_3).f2)] 98 (0, 0))) := ⟨by (with_reducible repeat (first | refine blk_drewN ?_ _ | refine blk_drew ?_ | refine blk_alloc ?_ _)); refine blk_put (cs := #[.int .i64 ((rd_T98 l0_4 x5_3).f0), .int .i64 ((rd_T98 l0_4 x5_3).f1), .int .i64 0]) ?_ 2 _ rfl; (with_reducible repeat (first | refine blk_drewN ?_ _ | refine blk_drew ?_ | refine blk_alloc ?_ _)); refine blk_put (cs := #[.int .i64 ((rd_T98 l0_4 x5_3).f0), .int .i64 0, .int .i64 0]) ?_ 1 _ rfl; (with_reducible repeat (first | refine blk_drewN ?_ _ | refine blk_drew ?_ | refine blk_alloc ?_ _)); refine blk_put (cs := #[.int .i64 0, .int .i64 0, .int .i64 0]) ?_ 0 _ rfl; exact bs BK463.out⟩
        have n3_ : Aside0 (Below w.heap.size w (((w32.setCell ⟨gb463, 0, none⟩ (.int .i64 ((rd_T98 l0_4 x5_3).f0))).setCell ⟨gb463, 1, none⟩ (.int .i64 ((rd_T98 l0_4 x5_3).f1))).setCell ⟨gb463, 2, none⟩ (.int .i64 ((rd_T98 l0_4 x5_3).f2)))) := ⟨by repeat (first | (with_reducible first | exact bw HB.out | refine bset ?_ | apply bA | apply bN | apply bD) | exact HB.out)⟩
        (try clear BK456)
        (try clear BK458)
        (try clear BK463)
        (try clear HB)
        (try simp only [setCell_drewN])
        generalize (((w32.setCell ⟨gb463, 0, none⟩ (.int .i64 ((rd_T98 l0_4 x5_3).f0))).setCell ⟨gb463, 1, none⟩ (.int .i64 ((rd_T98 l0_4 x5_3).f1))).setCell ⟨gb463, 2, none⟩ (.int .i64 ((rd_T98 l0_4 x5_3).f2))) = w36 at n0_ n1_ n2_ n3_ ⊢
        have BK456 := n0_
        have BK458 := n1_
        have BK463 := n2_
        have HB := n3_
        clear n0_ n1_ n2_ n3_
        have n0_ := Aside0.mk (blk_drew BK456.out)
        have n1_ := Aside0.mk (blk_drew BK458.out)
        have n2_ := Aside0.mk (blk_drew BK463.out)
        have n3_ := Aside0.mk (below_drew1 HB.out)
        replace BK456 := n0_
        replace BK458 := n1_
        replace BK463 := n2_
        replace HB := n3_
        clear n0_ n1_ n2_ n3_
        refine start_ (n := 27) (S := fun w' => w'.cell? ⟨gb463, 0, none⟩ = some (.int .i64 ((rd_T98 l0_4 x5_3).f0)) ∧ w'.cell? ⟨gb463, 1, none⟩ = some (.int .i64 ((rd_T98 l0_4 x5_3).f1)) ∧ w'.cell? ⟨gb463, 2, none⟩ = some (.int .i64 ((rd_T98 l0_4 x5_3).f2)) ∧ w'.cell? ⟨gb458, 0, none⟩ = some (.int .i64 ((rd_T98 l0_4 x3_1).f0)) ∧ w'.cell? ⟨gb458, 1, none⟩ = some (.int .i64 ((rd_T98 l0_4 x3_1).f1)) ∧ w'.cell? ⟨gb458, 2, none⟩ = some (.int .i64 ((rd_T98 l0_4 x3_1).f2))) (ds := []) q94_40 (by kernel_rfl) rfl rfl ⟨(blk_cell BK463.out 0).trans rfl, (blk_cell BK463.out 1).trans rfl, (blk_cell BK463.out 2).trans rfl, (blk_cell BK458.out 0).trans rfl, (blk_cell BK458.out 1).trans rfl, (blk_cell BK458.out 2).trans rfl⟩ (fun hHeld => ?_); refine with_tabW spec_l12Tasks.tab11 spec_l12Tasks.bits11 (fun HT_ HW_ => ?_)
        generalize w36.drew = w37 at BK456 BK458 BK463 HB hHeld ⊢
        refine pup_ (i := 0) (N := some 63) HT_ rfl rfl (by kernel_rfl) (fun _ _ _ h => h) (Or.inl ⟨by rfl, by intro w'; go_simp; with_reducible rfl⟩) (by simp only [aq_]; rfl) ?_
        refine pup_ (i := 2) (N := some 65) HT_ rfl rfl (by kernel_rfl) (fun _ _ _ h => h) (Or.inl ⟨by rfl, by intro w'; go_simp; with_reducible rfl⟩) (by simp only [aq_]; rfl) ?_
        refine take_ (i := 1) (N := some 64) (v := ?_) (a' := ?_) q94_43 rfl rfl (take_ofW HT_.out HW_.out (by kernel_rfl)) (fun _ _ _ h => h) (Or.inl ⟨by rfl, ?_⟩) hHeld ?_ ?_
        rotate_left
        ·rintro w' ⟨s0, s1, s2, s3, s4, s5⟩
         go_simp
         with_reducible rfl
        rotate_left
        ·simp only [aq_]
         rfl
        refine take_ (i := 3) (N := some 66) (v := ?_) (a' := ?_) q94_44 rfl rfl (take_ofW HT_.out HW_.out (by kernel_rfl)) (fun _ _ _ h => h) (Or.inl ⟨by rfl, ?_⟩) hHeld ?_ ?_
        rotate_left
        ·rintro w' ⟨s0, s1, s2, s3, s4, s5⟩
         go_simp
         with_reducible rfl
        rotate_left
        ·simp only [aq_]
         rfl
        refine pup_ (i := 4) (N := some 67) HT_ rfl rfl (by kernel_rfl) (fun _ _ _ h => h) (Or.inl ⟨by rfl, by intro w'; go_simp; with_reducible rfl⟩) (by simp only [aq_]; rfl) ?_
        refine pup_ (i := 5) (N := some 68) HT_ rfl rfl (by kernel_rfl) (fun _ _ _ h => h) (Or.inl ⟨by rfl, by intro w'; go_simp; with_reducible rfl⟩) (by simp only [aq_]; rfl) ?_
        refine skp_ HT_ 6 (some 69) rfl rfl (by kernel_rfl) (fun _ _ _ h => h) (by rfl) (by simp only [aq_]; rfl) ?_
        refine skp_ HT_ 7 (some 70) rfl rfl (by kernel_rfl) (fun _ _ _ h => h) (by rfl) (by simp only [aq_]; rfl) ?_
        refine skp_ HT_ 8 (some 71) rfl rfl (by kernel_rfl) (fun _ _ _ h => h) (by rfl) (by simp only [aq_]; rfl) ?_
        refine skp_ HT_ 9 (some 72) rfl rfl (by kernel_rfl) (fun _ _ _ h => h) (by rfl) (by simp only [aq_]; rfl) ?_
        refine skp_ HT_ 10 (some 73) rfl rfl (by kernel_rfl) (fun _ _ _ h => h) (by rfl) (by simp only [aq_]; rfl) ?_
        refine skp_ HT_ 11 (some 74) rfl rfl (by kernel_rfl) (fun _ _ _ h => h) (by rfl) (by simp only [aq_]; rfl) ?_
        refine skp_ HT_ 12 (some 75) rfl rfl (by kernel_rfl) (fun _ _ _ h => h) (by rfl) (by simp only [aq_]; rfl) ?_
        refine skp_ HT_ 13 (some 76) rfl rfl (by kernel_rfl) (fun _ _ _ h => h) (by rfl) (by simp only [aq_]; rfl) ?_
        refine skp_ HT_ 14 (some 77) rfl rfl (by kernel_rfl) (fun _ _ _ h => h) (by rfl) (by simp only [aq_]; rfl) ?_
        refine skp_ HT_ 15 (some 78) rfl rfl (by kernel_rfl) (fun _ _ _ h => h) (by rfl) (by simp only [aq_]; rfl) ?_
        refine skp_ HT_ 16 (some 79) rfl rfl (by kernel_rfl) (fun _ _ _ h => h) (by rfl) (by simp only [aq_]; rfl) ?_
        refine skp_ HT_ 17 (some 80) rfl rfl (by kernel_rfl) (fun _ _ _ h => h) (by rfl) (by simp only [aq_]; rfl) ?_
        refine skp_ HT_ 18 (some 81) rfl rfl (by kernel_rfl) (fun _ _ _ h => h) (by rfl) (by simp only [aq_]; rfl) ?_
        refine skp_ HT_ 19 (some 82) rfl rfl (by kernel_rfl) (fun _ _ _ h => h) (by rfl) (by simp only [aq_]; rfl) ?_
        refine skp_ HT_ 20 (some 83) rfl rfl (by kernel_rfl) (fun _ _ _ h => h) (by rfl) (by simp only [aq_]; rfl) ?_
        refine skp_ HT_ 21 (some 84) rfl rfl (by kernel_rfl) (fun _ _ _ h => h) (by rfl) (by simp only [aq_]; rfl) ?_
        refine skp_ HT_ 22 (some 85) rfl rfl (by kernel_rfl) (fun _ _ _ h => h) (by rfl) (by simp only [aq_]; rfl) ?_
        refine skp_ HT_ 23 (some 86) rfl rfl (by kernel_rfl) (fun _ _ _ h => h) (by rfl) (by simp only [aq_]; rfl) ?_
        refine skp_ HT_ 24 (some 87) rfl rfl (by kernel_rfl) (fun _ _ _ h => h) (by rfl) (by simp only [aq_]; rfl) ?_
        refine skp_ HT_ 25 (some 88) rfl rfl (by kernel_rfl) (fun _ _ _ h => h) (by rfl) (by simp only [aq_]; rfl) ?_
        refine pup_ (i := 26) (N := some 89) HT_ rfl rfl (by kernel_rfl) (fun _ _ _ h => h) (Or.inl ⟨by rfl, by intro w'; go_simp; with_reducible rfl⟩) (by simp only [aq_]; rfl) ?_
        refine done_ (done_of HT_.out (by kernel_rfl)) ?_
        try go_wp2
        go_ret
        exact ⟨by first | rfl | (simp [errW_none, errW_some] <;> rfl) | (simp [*, errW_none, errW_some] <;> rfl), by repeat (first | (with_reducible first | exact bw HB.out | refine bset ?_ | apply bA | apply bN | apply bD) | exact HB.out)⟩
       rw [if_neg c29] at H
       have c29b0 : (((rd_T98 l0_4 x5_3).f0) == ((rd_T98 l0_4 x3_1).f0)) = false := beq_eq_false_iff_ne.mpr c29
       have c29b1 : (((rd_T98 l0_4 x5_3).f0) != ((rd_T98 l0_4 x3_1).f0)) = true := bne_iff_ne.mpr c29
       by_cases c38 : ((rd_T98 l0_4 x5_3).f1) = ((rd_T98 l0_4 x3_1).f1)
       rotate_left
       ·rw [if_neg c38] at H
        have c38b0 : (((rd_T98 l0_4 x5_3).f1) == ((rd_T98 l0_4 x3_1).f1)) = false := beq_eq_false_iff_ne.mpr c38
        have c38b1 : (((rd_T98 l0_4 x5_3).f1) != ((rd_T98 l0_4 x3_1).f1)) = true := bne_iff_ne.mpr c38
        have H' := Aside0.mk H
        clear H
        have hnb58 := NB456_458.out
        have hnc58 := NB458_456.out
        obtain ⟨hcz59_0, hcz59_1, hcz59_2, hcz59_3, hcz59_4, hfz59_0, hfz59_1, hfz59_2, hfz59_3, hfz59_4⟩ := bz5 BK456.out
        have p462 : 0 ≤ (x5_3 : Int) := of_decide_eq_true (by first | (with_reducible assumption) | assumption)
        have q462 : x5_3 < (l0_4.length : Int) := of_decide_eq_true (by first | (with_reducible assumption) | assumption)
        obtain ⟨ad462, e462, hx462_0, hx462_1, hx462_2⟩ := at_T98 HR0_4.out x5_3 p462 q462
        obtain rfl : ad457 = ad462 := (by injection e462)
        replace hx462_0 := (HB.out.cell (World.block_lt_of_cell? w _ hx462_0)).trans hx462_0
        replace hx462_1 := (HB.out.cell (World.block_lt_of_cell? w _ hx462_1)).trans hx462_1
        replace hx462_2 := (HB.out.cell (World.block_lt_of_cell? w _ hx462_2)).trans hx462_2
        replace p462 := eq_true p462
        replace q462 := eq_true q462
        try go_wp2_with (first | ((with_reducible refine gate_dst (N := 6) rfl ?_); refine box_event ?hg (N := 6) ?hd (cs := #[.int .i64 0, .int .i64 0, .int .i64 0]) (t := 98) ?hr ?_; (case hd => rfl); (case hg => rfl); (case hr => first | (go_simp; done) | (go_simp; rfl)); intro gb463 hg w60 hbox hb; have n0_ := Aside0.mk (blk_below (bs BK456.out) hb); have n1_ := Aside0.mk (blk_below (bs BK458.out) hb); have n2_ := Aside0.mk (below_step (by repeat (first | (with_reducible first | exact bw HB.out | refine bset ?_ | apply bA | apply bN | apply bD) | exact HB.out)) hb); have n3_ := Aside0.mk (hbox); have n4_ := Aside0.mk ((by rw [hg]; exact (below_size (by repeat (first | (with_reducible first | exact bw HB.out | refine bset ?_ | apply bA | apply bN | apply bD) | exact HB.out))) : w.heap.size ≤ gb463)); have n5_ := Aside0.mk ((by rw [hg]; exact (below_size (by repeat (first | (with_reducible first | exact bw HB.out | refine bset ?_ | apply bA | apply bN | apply bD) | exact HB.out))) : w.heap.size ≤ gb463)); have n6_ := ne_ hg BK456.out; have n7_ := en_ hg BK456.out; have n8_ := ne_ hg BK458.out; have n9_ := en_ hg BK458.out; replace BK456 := n0_; replace BK458 := n1_; replace HB := n2_; have BK463 := n3_; have GW463 := n4_; have GE463 := n5_; have NB456_463 := n6_; have NB463_456 := n7_; have NB458_463 := n8_; have NB463_458 := n9_; clear n0_ n1_ n2_ n3_ n4_ n5_ n6_ n7_ n8_ n9_; clear hb hbox hg; have hnb61 := NB463_456.out; have hnc61 := NB456_463.out; have hnb62 := NB463_458.out; have hnc62 := NB458_463.out; obtain ⟨hcz63_0, hcz63_1, hcz63_2, hfz63_0, hfz63_1, hfz63_2⟩ := bz3 BK463.out))
        have n0_ : Aside0 ((((w60.setCell ⟨gb463, 0, none⟩ (.int .i64 ((rd_T98 l0_4 x5_3).f0))).setCell ⟨gb463, 1, none⟩ (.int .i64 ((rd_T98 l0_4 x5_3).f1))).setCell ⟨gb463, 2, none⟩ (.int .i64 ((rd_T98 l0_4 x5_3).f2))).heap[gb456]? = some (.cells #[.int .i64 a0_0, .int .i64 a0_1, .int .i64 a0_2, .slice A0_3 l0_3.length c0_3, .slice (some ad457) l0_4.length c0_4] 43 (0, 0))) := ⟨by (with_reducible repeat (first | refine blk_drewN ?_ _ | refine blk_drew ?_ | refine blk_alloc ?_ _)); refine blk_far ?_ NB456_463.out _; (with_reducible repeat (first | refine blk_drewN ?_ _ | refine blk_drew ?_ | refine blk_alloc ?_ _)); refine blk_far ?_ NB456_463.out _; (with_reducible repeat (first | refine blk_drewN ?_ _ | refine blk_drew ?_ | refine blk_alloc ?_ _)); refine blk_far ?_ NB456_463.out _; exact bs BK456.out⟩
        have n1_ : Aside0 ((((w60.setCell ⟨gb463, 0, none⟩ (.int .i64 ((rd_T98 l0_4 x5_3).f0))).setCell ⟨gb463, 1, none⟩ (.int .i64 ((rd_T98 l0_4 x5_3).f1))).setCell ⟨gb463, 2, none⟩ (.int .i64 ((rd_T98 l0_4 x5_3).f2))).heap[gb458]? = some (.cells #[.int .i64 ((rd_T98 l0_4 x3_1).f0), .int .i64 ((rd_T98 l0_4 x3_1).f1), .int .i64 ((rd_T98 l0_4 x3_1).f2)] 98 (0, 0))) := ⟨by (with_reducible repeat (first | refine blk_drewN ?_ _ | refine blk_drew ?_ | refine blk_alloc ?_ _)); refine blk_far ?_ NB458_463.out _; (with_reducible repeat (first | refine blk_drewN ?_ _ | refine blk_drew ?_ | refine blk_alloc ?_ _)); refine blk_far ?_ NB458_463.out _; (with_reducible repeat (first | refine blk_drewN ?_ _ | refine blk_drew ?_ | refine blk_alloc ?_ _)); refine blk_far ?_ NB458_463.out _; exact bs BK458.out⟩
        have n2_ : Aside0 ((((w60.setCell ⟨gb463, 0, none⟩ (.int .i64 ((rd_T98 l0_4 x5_3).f0))).setCell ⟨gb463, 1, none⟩ (.int .i64 ((rd_T98 l0_4 x5_3).f1))).setCell ⟨gb463, 2, none⟩ (.int .i64 ((rd_T98 l0_4 x5_3).f2))).heap[gb463]? = some (.cells #[.int .i64 ((rd_T98 l0_4 x5_3).f0), .int .i64 ((rd_T98 l0_4 x5_3).f1), .int .i64 ((rd_T98 l0_4 x5_3).f2)] 98 (0, 0))) := ⟨by (with_reducible repeat (first | refine blk_drewN ?_ _ | refine blk_drew ?_ | refine blk_alloc ?_ _)); refine blk_put (cs := #[.int .i64 ((rd_T98 l0_4 x5_3).f0), .int .i64 ((rd_T98 l0_4 x5_3).f1), .int .i64 0]) ?_ 2 _ rfl; (with_reducible repeat (first | refine blk_drewN ?_ _ | refine blk_drew ?_ | refine blk_alloc ?_ _)); refine blk_put (cs := #[.int .i64 ((rd_T98 l0_4 x5_3).f0), .int .i64 0, .int .i64 0]) ?_ 1 _ rfl; (with_reducible repeat (first | refine blk_drewN ?_ _ | refine blk_drew ?_ | refine blk_alloc ?_ _)); refine blk_put (cs := #[.int .i64 0, .int .i64 0, .int .i64 0]) ?_ 0 _ rfl; exact bs BK463.out⟩
        have n3_ : Aside0 (Below w.heap.size w (((w60.setCell ⟨gb463, 0, none⟩ (.int .i64 ((rd_T98 l0_4 x5_3).f0))).setCell ⟨gb463, 1, none⟩ (.int .i64 ((rd_T98 l0_4 x5_3).f1))).setCell ⟨gb463, 2, none⟩ (.int .i64 ((rd_T98 l0_4 x5_3).f2)))) := ⟨by repeat (first | (with_reducible first | exact bw HB.out | refine bset ?_ | apply bA | apply bN | apply bD) | exact HB.out)⟩
        (try clear BK456)
        (try clear BK458)
        (try clear BK463)
        (try clear HB)
        (try simp only [setCell_drewN])
        generalize (((w60.setCell ⟨gb463, 0, none⟩ (.int .i64 ((rd_T98 l0_4 x5_3).f0))).setCell ⟨gb463, 1, none⟩ (.int .i64 ((rd_T98 l0_4 x5_3).f1))).setCell ⟨gb463, 2, none⟩ (.int .i64 ((rd_T98 l0_4 x5_3).f2))) = w64 at n0_ n1_ n2_ n3_ ⊢
        have BK456 := n0_
        have BK458 := n1_
        have BK463 := n2_
        have HB := n3_
        clear n0_ n1_ n2_ n3_
        have n0_ := Aside0.mk (blk_drew BK456.out)
        have n1_ := Aside0.mk (blk_drew BK458.out)
        have n2_ := Aside0.mk (blk_drew BK463.out)
        have n3_ := Aside0.mk (below_drew1 HB.out)
        replace BK456 := n0_
        replace BK458 := n1_
        replace BK463 := n2_
        replace HB := n3_
        clear n0_ n1_ n2_ n3_
        refine start_ (n := 27) (S := fun w' => w'.cell? ⟨gb463, 0, none⟩ = some (.int .i64 ((rd_T98 l0_4 x5_3).f0)) ∧ w'.cell? ⟨gb463, 1, none⟩ = some (.int .i64 ((rd_T98 l0_4 x5_3).f1)) ∧ w'.cell? ⟨gb463, 2, none⟩ = some (.int .i64 ((rd_T98 l0_4 x5_3).f2)) ∧ w'.cell? ⟨gb458, 0, none⟩ = some (.int .i64 ((rd_T98 l0_4 x3_1).f0)) ∧ w'.cell? ⟨gb458, 1, none⟩ = some (.int .i64 ((rd_T98 l0_4 x3_1).f1)) ∧ w'.cell? ⟨gb458, 2, none⟩ = some (.int .i64 ((rd_T98 l0_4 x3_1).f2))) (ds := []) q94_40 (by kernel_rfl) rfl rfl ⟨(blk_cell BK463.out 0).trans rfl, (blk_cell BK463.out 1).trans rfl, (blk_cell BK463.out 2).trans rfl, (blk_cell BK458.out 0).trans rfl, (blk_cell BK458.out 1).trans rfl, (blk_cell BK458.out 2).trans rfl⟩ (fun hHeld => ?_); refine with_tabW spec_l12Tasks.tab11 spec_l12Tasks.bits11 (fun HT_ HW_ => ?_)
        generalize w64.drew = w65 at BK456 BK458 BK463 HB hHeld ⊢
        refine pup_ (i := 0) (N := some 63) HT_ rfl rfl (by kernel_rfl) (fun _ _ _ h => h) (Or.inl ⟨by rfl, by intro w'; go_simp; with_reducible rfl⟩) (by simp only [aq_]; rfl) ?_
        refine pup_ (i := 2) (N := some 65) HT_ rfl rfl (by kernel_rfl) (fun _ _ _ h => h) (Or.inl ⟨by rfl, by intro w'; go_simp; with_reducible rfl⟩) (by simp only [aq_]; rfl) ?_
        refine take_ (i := 1) (N := some 64) (v := ?_) (a' := ?_) q94_43 rfl rfl (take_ofW HT_.out HW_.out (by kernel_rfl)) (fun _ _ _ h => h) (Or.inl ⟨by rfl, ?_⟩) hHeld ?_ ?_
        rotate_left
        ·rintro w' ⟨s0, s1, s2, s3, s4, s5⟩
         go_simp
         with_reducible rfl
        rotate_left
        ·simp only [aq_]
         rfl
        refine take_ (i := 3) (N := some 66) (v := ?_) (a' := ?_) q94_44 rfl rfl (take_ofW HT_.out HW_.out (by kernel_rfl)) (fun _ _ _ h => h) (Or.inl ⟨by rfl, ?_⟩) hHeld ?_ ?_
        rotate_left
        ·rintro w' ⟨s0, s1, s2, s3, s4, s5⟩
         go_simp
         with_reducible rfl
        rotate_left
        ·simp only [aq_]
         rfl
        refine pup_ (i := 4) (N := some 67) HT_ rfl rfl (by kernel_rfl) (fun _ _ _ h => h) (Or.inl ⟨by rfl, by intro w'; go_simp; with_reducible rfl⟩) (by simp only [aq_]; rfl) ?_
        refine pup_ (i := 5) (N := some 68) HT_ rfl rfl (by kernel_rfl) (fun _ _ _ h => h) (Or.inl ⟨by rfl, by intro w'; go_simp; with_reducible rfl⟩) (by simp only [aq_]; rfl) ?_
        refine pup_ (i := 6) (N := some 69) HT_ rfl rfl (by kernel_rfl) (fun _ _ _ h => h) (Or.inl ⟨by rfl, by intro w'; go_simp; with_reducible rfl⟩) (by simp only [aq_]; rfl) ?_
        refine pup_ (i := 8) (N := some 71) HT_ rfl rfl (by kernel_rfl) (fun _ _ _ h => h) (Or.inl ⟨by rfl, by intro w'; go_simp; with_reducible rfl⟩) (by simp only [aq_]; rfl) ?_
        refine take_ (i := 7) (N := some 70) (v := ?_) (a' := ?_) q94_49 rfl rfl (take_ofW HT_.out HW_.out (by kernel_rfl)) (fun _ _ _ h => h) (Or.inl ⟨by rfl, ?_⟩) hHeld ?_ ?_
        rotate_left
        ·rintro w' ⟨s0, s1, s2, s3, s4, s5⟩
         go_simp
         with_reducible rfl
        rotate_left
        ·simp only [aq_]
         rfl
        refine take_ (i := 9) (N := some 72) (v := ?_) (a' := ?_) q94_50 rfl rfl (take_ofW HT_.out HW_.out (by kernel_rfl)) (fun _ _ _ h => h) (Or.inl ⟨by rfl, ?_⟩) hHeld ?_ ?_
        rotate_left
        ·rintro w' ⟨s0, s1, s2, s3, s4, s5⟩
         go_simp
         with_reducible rfl
        rotate_left
        ·simp only [aq_]
         rfl
        refine pup_ (i := 10) (N := some 73) HT_ rfl rfl (by kernel_rfl) (fun _ _ _ h => h) (Or.inl ⟨by rfl, by intro w'; go_simp; with_reducible rfl⟩) (by simp only [aq_]; rfl) ?_
        refine pup_ (i := 11) (N := some 74) HT_ rfl rfl (by kernel_rfl) (fun _ _ _ h => h) (Or.inl ⟨by rfl, by intro w'; go_simp; with_reducible rfl⟩) (by simp only [aq_]; rfl) ?_
        refine skp_ HT_ 12 (some 75) rfl rfl (by kernel_rfl) (fun _ _ _ h => h) (by rfl) (by simp only [aq_]; rfl) ?_
        refine skp_ HT_ 13 (some 76) rfl rfl (by kernel_rfl) (fun _ _ _ h => h) (by rfl) (by simp only [aq_]; rfl) ?_
        refine skp_ HT_ 14 (some 77) rfl rfl (by kernel_rfl) (fun _ _ _ h => h) (by rfl) (by simp only [aq_]; rfl) ?_
        refine skp_ HT_ 15 (some 78) rfl rfl (by kernel_rfl) (fun _ _ _ h => h) (by rfl) (by simp only [aq_]; rfl) ?_
        refine skp_ HT_ 16 (some 79) rfl rfl (by kernel_rfl) (fun _ _ _ h => h) (by rfl) (by simp only [aq_]; rfl) ?_
        refine skp_ HT_ 17 (some 80) rfl rfl (by kernel_rfl) (fun _ _ _ h => h) (by rfl) (by simp only [aq_]; rfl) ?_
        refine skp_ HT_ 18 (some 81) rfl rfl (by kernel_rfl) (fun _ _ _ h => h) (by rfl) (by simp only [aq_]; rfl) ?_
        refine skp_ HT_ 19 (some 82) rfl rfl (by kernel_rfl) (fun _ _ _ h => h) (by rfl) (by simp only [aq_]; rfl) ?_
        refine skp_ HT_ 20 (some 83) rfl rfl (by kernel_rfl) (fun _ _ _ h => h) (by rfl) (by simp only [aq_]; rfl) ?_
        refine skp_ HT_ 21 (some 84) rfl rfl (by kernel_rfl) (fun _ _ _ h => h) (by rfl) (by simp only [aq_]; rfl) ?_
        refine skp_ HT_ 22 (some 85) rfl rfl (by kernel_rfl) (fun _ _ _ h => h) (by rfl) (by simp only [aq_]; rfl) ?_
        refine skp_ HT_ 23 (some 86) rfl rfl (by kernel_rfl) (fun _ _ _ h => h) (by rfl) (by simp only [aq_]; rfl) ?_
        refine skp_ HT_ 24 (some 87) rfl rfl (by kernel_rfl) (fun _ _ _ h => h) (by rfl) (by simp only [aq_]; rfl) ?_
        refine pup_ (i := 25) (N := some 88) HT_ rfl rfl (by kernel_rfl) (fun _ _ _ h => h) (Or.inl ⟨by rfl, by intro w'; go_simp; with_reducible rfl⟩) (by simp only [aq_]; rfl) ?_
        refine pup_ (i := 26) (N := some 89) HT_ rfl rfl (by kernel_rfl) (fun _ _ _ h => h) (Or.inl ⟨by rfl, by intro w'; go_simp; with_reducible rfl⟩) (by simp only [aq_]; rfl) ?_
        refine done_ (done_of HT_.out (by kernel_rfl)) ?_
        try go_wp2
        go_roundg k3
        case measure => have := HK1.out; have := HJ4.out; have := HK3.out; omega
        case rel => exact ⟨(wrap64 (x5_3 + 1)), (by first | rfl | (simp; done) | (simp [*]; done)), H', ⟨by have := HK1.out; have := HJ4.out; have := HK3.out; omega⟩, ⟨bs BK456.out⟩, ⟨bs BK458.out⟩, ⟨by repeat (first | (with_reducible first | exact bw HB.out | refine bset ?_ | apply bA | apply bN | apply bD) | exact HB.out)⟩⟩
       rw [if_pos c38] at H
       have c38b0 : (((rd_T98 l0_4 x5_3).f1) == ((rd_T98 l0_4 x3_1).f1)) = true := beq_iff_eq.mpr c38
       have c38b1 : (((rd_T98 l0_4 x5_3).f1) != ((rd_T98 l0_4 x3_1).f1)) = false := bne_eq_false_iff_eq.mpr c38
       clear c38
       by_cases c39 : 0 ≤ ((rd_T98 l0_4 x5_3).f0)
       rotate_left
       ·rw [if_neg c39] at H
        exact absurd H (by simp)
       rw [if_pos c39] at H
       have c39b0 : decide (0 ≤ ((rd_T98 l0_4 x5_3).f0)) = true := decide_eq_true c39
       clear c39
       by_cases c40 : ((rd_T98 l0_4 x5_3).f0) < (l0_3.length : Int)
       rotate_left
       ·rw [if_neg c40] at H
        exact absurd H (by simp)
       rw [if_pos c40] at H
       have c40b0 : decide (((rd_T98 l0_4 x5_3).f0) < (l0_3.length : Int)) = true := decide_eq_true c40
       clear c40
       by_cases c41 : (wrap64 (((rd_T98 l0_4 x5_3).f2) + ((rd_T61 l0_3 ((rd_T98 l0_4 x5_3).f0)).f0))) > ((rd_T98 l0_4 x3_1).f2)
       ·rw [if_pos c41] at H
        have c41b0 : decide (((rd_T98 l0_4 x3_1).f2) < (wrap64 (((rd_T98 l0_4 x5_3).f2) + ((rd_T61 l0_3 ((rd_T98 l0_4 x5_3).f0)).f0)))) = true := decide_eq_true c41
        clear c41
        obtain rfl := Option.some.inj H
        have hnb42 := NB456_458.out
        have hnc42 := NB458_456.out
        obtain ⟨hcz43_0, hcz43_1, hcz43_2, hcz43_3, hcz43_4, hfz43_0, hfz43_1, hfz43_2, hfz43_3, hfz43_4⟩ := bz5 BK456.out
        have p462 : 0 ≤ (x5_3 : Int) := of_decide_eq_true (by first | (with_reducible assumption) | assumption)
        have q462 : x5_3 < (l0_4.length : Int) := of_decide_eq_true (by first | (with_reducible assumption) | assumption)
        obtain ⟨ad462, e462, hx462_0, hx462_1, hx462_2⟩ := at_T98 HR0_4.out x5_3 p462 q462
        obtain rfl : ad457 = ad462 := (by injection e462)
        replace hx462_0 := (HB.out.cell (World.block_lt_of_cell? w _ hx462_0)).trans hx462_0
        replace hx462_1 := (HB.out.cell (World.block_lt_of_cell? w _ hx462_1)).trans hx462_1
        replace hx462_2 := (HB.out.cell (World.block_lt_of_cell? w _ hx462_2)).trans hx462_2
        replace p462 := eq_true p462
        replace q462 := eq_true q462
        try go_wp2_with (first | ((with_reducible refine gate_dst (N := 6) rfl ?_); refine box_event ?hg (N := 6) ?hd (cs := #[.int .i64 0, .int .i64 0, .int .i64 0]) (t := 98) ?hr ?_; (case hd => rfl); (case hg => rfl); (case hr => first | (go_simp; done) | (go_simp; rfl)); intro gb463 hg w44 hbox hb; have n0_ := Aside0.mk (blk_below (bs BK456.out) hb); have n1_ := Aside0.mk (blk_below (bs BK458.out) hb); have n2_ := Aside0.mk (below_step (by repeat (first | (with_reducible first | exact bw HB.out | refine bset ?_ | apply bA | apply bN | apply bD) | exact HB.out)) hb); have n3_ := Aside0.mk (hbox); have n4_ := Aside0.mk ((by rw [hg]; exact (below_size (by repeat (first | (with_reducible first | exact bw HB.out | refine bset ?_ | apply bA | apply bN | apply bD) | exact HB.out))) : w.heap.size ≤ gb463)); have n5_ := Aside0.mk ((by rw [hg]; exact (below_size (by repeat (first | (with_reducible first | exact bw HB.out | refine bset ?_ | apply bA | apply bN | apply bD) | exact HB.out))) : w.heap.size ≤ gb463)); have n6_ := ne_ hg BK456.out; have n7_ := en_ hg BK456.out; have n8_ := ne_ hg BK458.out; have n9_ := en_ hg BK458.out; replace BK456 := n0_; replace BK458 := n1_; replace HB := n2_; have BK463 := n3_; have GW463 := n4_; have GE463 := n5_; have NB456_463 := n6_; have NB463_456 := n7_; have NB458_463 := n8_; have NB463_458 := n9_; clear n0_ n1_ n2_ n3_ n4_ n5_ n6_ n7_ n8_ n9_; clear hb hbox hg; have hnb45 := NB463_456.out; have hnc45 := NB456_463.out; have hnb46 := NB463_458.out; have hnc46 := NB458_463.out; obtain ⟨hcz47_0, hcz47_1, hcz47_2, hfz47_0, hfz47_1, hfz47_2⟩ := bz3 BK463.out))
        have n0_ : Aside0 ((((w44.setCell ⟨gb463, 0, none⟩ (.int .i64 ((rd_T98 l0_4 x5_3).f0))).setCell ⟨gb463, 1, none⟩ (.int .i64 ((rd_T98 l0_4 x5_3).f1))).setCell ⟨gb463, 2, none⟩ (.int .i64 ((rd_T98 l0_4 x5_3).f2))).heap[gb456]? = some (.cells #[.int .i64 a0_0, .int .i64 a0_1, .int .i64 a0_2, .slice A0_3 l0_3.length c0_3, .slice (some ad457) l0_4.length c0_4] 43 (0, 0))) := ⟨by (with_reducible repeat (first | refine blk_drewN ?_ _ | refine blk_drew ?_ | refine blk_alloc ?_ _)); refine blk_far ?_ NB456_463.out _; (with_reducible repeat (first | refine blk_drewN ?_ _ | refine blk_drew ?_ | refine blk_alloc ?_ _)); refine blk_far ?_ NB456_463.out _; (with_reducible repeat (first | refine blk_drewN ?_ _ | refine blk_drew ?_ | refine blk_alloc ?_ _)); refine blk_far ?_ NB456_463.out _; exact bs BK456.out⟩
        have n1_ : Aside0 ((((w44.setCell ⟨gb463, 0, none⟩ (.int .i64 ((rd_T98 l0_4 x5_3).f0))).setCell ⟨gb463, 1, none⟩ (.int .i64 ((rd_T98 l0_4 x5_3).f1))).setCell ⟨gb463, 2, none⟩ (.int .i64 ((rd_T98 l0_4 x5_3).f2))).heap[gb458]? = some (.cells #[.int .i64 ((rd_T98 l0_4 x3_1).f0), .int .i64 ((rd_T98 l0_4 x3_1).f1), .int .i64 ((rd_T98 l0_4 x3_1).f2)] 98 (0, 0))) := ⟨by (with_reducible repeat (first | refine blk_drewN ?_ _ | refine blk_drew ?_ | refine blk_alloc ?_ _)); refine blk_far ?_ NB458_463.out _; (with_reducible repeat (first | refine blk_drewN ?_ _ | refine blk_drew ?_ | refine blk_alloc ?_ _)); refine blk_far ?_ NB458_463.out _; (with_reducible repeat (first | refine blk_drewN ?_ _ | refine blk_drew ?_ | refine blk_alloc ?_ _)); refine blk_far ?_ NB458_463.out _; exact bs BK458.out⟩
        have n2_ : Aside0 ((((w44.setCell ⟨gb463, 0, none⟩ (.int .i64 ((rd_T98 l0_4 x5_3).f0))).setCell ⟨gb463, 1, none⟩ (.int .i64 ((rd_T98 l0_4 x5_3).f1))).setCell ⟨gb463, 2, none⟩ (.int .i64 ((rd_T98 l0_4 x5_3).f2))).heap[gb463]? = some (.cells #[.int .i64 ((rd_T98 l0_4 x5_3).f0), .int .i64 ((rd_T98 l0_4 x5_3).f1), .int .i64 ((rd_T98 l0_4 x5_3).f2)] 98 (0, 0))) := ⟨by (with_reducible repeat (first | refine blk_drewN ?_ _ | refine blk_drew ?_ | refine blk_alloc ?_ _)); refine blk_put (cs := #[.int .i64 ((rd_T98 l0_4 x5_3).f0), .int .i64 ((rd_T98 l0_4 x5_3).f1), .int .i64 0]) ?_ 2 _ rfl; (with_reducible repeat (first | refine blk_drewN ?_ _ | refine blk_drew ?_ | refine blk_alloc ?_ _)); refine blk_put (cs := #[.int .i64 ((rd_T98 l0_4 x5_3).f0), .int .i64 0, .int .i64 0]) ?_ 1 _ rfl; (with_reducible repeat (first | refine blk_drewN ?_ _ | refine blk_drew ?_ | refine blk_alloc ?_ _)); refine blk_put (cs := #[.int .i64 0, .int .i64 0, .int .i64 0]) ?_ 0 _ rfl; exact bs BK463.out⟩
        have n3_ : Aside0 (Below w.heap.size w (((w44.setCell ⟨gb463, 0, none⟩ (.int .i64 ((rd_T98 l0_4 x5_3).f0))).setCell ⟨gb463, 1, none⟩ (.int .i64 ((rd_T98 l0_4 x5_3).f1))).setCell ⟨gb463, 2, none⟩ (.int .i64 ((rd_T98 l0_4 x5_3).f2)))) := ⟨by repeat (first | (with_reducible first | exact bw HB.out | refine bset ?_ | apply bA | apply bN | apply bD) | exact HB.out)⟩
        (try clear BK456)
        (try clear BK458)
        (try clear BK463)
        (try clear HB)
        (try simp only [setCell_drewN])
        generalize (((w44.setCell ⟨gb463, 0, none⟩ (.int .i64 ((rd_T98 l0_4 x5_3).f0))).setCell ⟨gb463, 1, none⟩ (.int .i64 ((rd_T98 l0_4 x5_3).f1))).setCell ⟨gb463, 2, none⟩ (.int .i64 ((rd_T98 l0_4 x5_3).f2))) = w48 at n0_ n1_ n2_ n3_ ⊢
        have BK456 := n0_
        have BK458 := n1_
        have BK463 := n2_
        have HB := n3_
        clear n0_ n1_ n2_ n3_
        have n0_ := Aside0.mk (blk_drew BK456.out)
        have n1_ := Aside0.mk (blk_drew BK458.out)
        have n2_ := Aside0.mk (blk_drew BK463.out)
        have n3_ := Aside0.mk (below_drew1 HB.out)
        replace BK456 := n0_
        replace BK458 := n1_
        replace BK463 := n2_
        replace HB := n3_
        clear n0_ n1_ n2_ n3_
        have p464 : 0 ≤ (((rd_T98 l0_4 x5_3).f0) : Int) := of_decide_eq_true (by first | (with_reducible assumption) | assumption)
        have q464 : ((rd_T98 l0_4 x5_3).f0) < (l0_3.length : Int) := of_decide_eq_true (by first | (with_reducible assumption) | assumption)
        obtain ⟨ad464, e464, hx464_0, hx464_1, hx464_2, hx464_3⟩ := at_T61 HR0_3.out ((rd_T98 l0_4 x5_3).f0) p464 q464
        have hw464_3 := hx464_3
        have hw464_2 := hx464_2
        have hw464_1 := hx464_1
        have hw464_0 := hx464_0
        cases e464
        replace hx464_0 := (HB.out.cell (World.block_lt_of_cell? w _ hx464_0)).trans hx464_0
        replace hx464_1 := (HB.out.cell (World.block_lt_of_cell? w _ hx464_1)).trans hx464_1
        replace hx464_2 := (HB.out.cell (World.block_lt_of_cell? w _ hx464_2)).trans hx464_2
        replace hx464_3 := (HB.out.cell (World.block_lt_of_cell? w _ hx464_3)).trans hx464_3
        replace p464 := eq_true p464
        replace q464 := eq_true q464
        refine start_ (n := 27) (S := fun w' => w'.cell? ⟨gb463, 0, none⟩ = some (.int .i64 ((rd_T98 l0_4 x5_3).f0)) ∧ w'.cell? ⟨gb463, 1, none⟩ = some (.int .i64 ((rd_T98 l0_4 x5_3).f1)) ∧ w'.cell? ⟨gb463, 2, none⟩ = some (.int .i64 ((rd_T98 l0_4 x5_3).f2)) ∧ w'.cell? ⟨gb458, 0, none⟩ = some (.int .i64 ((rd_T98 l0_4 x3_1).f0)) ∧ w'.cell? ⟨gb458, 1, none⟩ = some (.int .i64 ((rd_T98 l0_4 x3_1).f1)) ∧ w'.cell? ⟨gb458, 2, none⟩ = some (.int .i64 ((rd_T98 l0_4 x3_1).f2)) ∧ w'.cell? ⟨gb456, 0, none⟩ = some (.int .i64 a0_0) ∧ w'.cell? ⟨gb456, 1, none⟩ = some (.int .i64 a0_1) ∧ w'.cell? ⟨gb456, 2, none⟩ = some (.int .i64 a0_2) ∧ w'.cell? ⟨gb456, 3, none⟩ = some (.slice (some ad464) l0_3.length c0_3) ∧ w'.cell? ⟨gb456, 4, none⟩ = some (.slice (some ad457) l0_4.length c0_4) ∧ w'.cell? (ad464.add ((((rd_T98 l0_4 x5_3).f0)).toNat * 4)) = some (.int .i64 ((rd_T61 l0_3 ((rd_T98 l0_4 x5_3).f0)).f0)) ∧ w'.cell? ⟨(ad464.add ((((rd_T98 l0_4 x5_3).f0)).toNat * 4)).block, (ad464.add ((((rd_T98 l0_4 x5_3).f0)).toNat * 4)).off + 1, none⟩ = some (.int .i64 ((rd_T61 l0_3 ((rd_T98 l0_4 x5_3).f0)).f1)) ∧ w'.cell? ⟨(ad464.add ((((rd_T98 l0_4 x5_3).f0)).toNat * 4)).block, (ad464.add ((((rd_T98 l0_4 x5_3).f0)).toNat * 4)).off + 2, none⟩ = some (.int .i64 ((rd_T61 l0_3 ((rd_T98 l0_4 x5_3).f0)).f2)) ∧ w'.cell? ⟨(ad464.add ((((rd_T98 l0_4 x5_3).f0)).toNat * 4)).block, (ad464.add ((((rd_T98 l0_4 x5_3).f0)).toNat * 4)).off + 3, none⟩ = some (.int .i64 ((rd_T61 l0_3 ((rd_T98 l0_4 x5_3).f0)).f3))) (ds := []) q94_40 (by kernel_rfl) rfl rfl ⟨(blk_cell BK463.out 0).trans rfl, (blk_cell BK463.out 1).trans rfl, (blk_cell BK463.out 2).trans rfl, (blk_cell BK458.out 0).trans rfl, (blk_cell BK458.out 1).trans rfl, (blk_cell BK458.out 2).trans rfl, (blk_cell BK456.out 0).trans rfl, (blk_cell BK456.out 1).trans rfl, (blk_cell BK456.out 2).trans rfl, (blk_cell BK456.out 3).trans rfl, (blk_cell BK456.out 4).trans rfl, (bcl_ HB.out hw464_0 :), (bcl_ HB.out hw464_1 :), (bcl_ HB.out hw464_2 :), (bcl_ HB.out hw464_3 :)⟩ (fun hHeld => ?_); refine with_tabW spec_l12Tasks.tab11 spec_l12Tasks.bits11 (fun HT_ HW_ => ?_)
        generalize w48.drew = w49 at BK456 BK458 BK463 HB hx464_0 hx464_1 hx464_2 hx464_3 hHeld ⊢
        refine pup_ (i := 0) (N := some 63) HT_ rfl rfl (by kernel_rfl) (fun _ _ _ h => h) (Or.inl ⟨by rfl, by intro w'; go_simp; with_reducible rfl⟩) (by simp only [aq_]; rfl) ?_
        refine pup_ (i := 2) (N := some 65) HT_ rfl rfl (by kernel_rfl) (fun _ _ _ h => h) (Or.inl ⟨by rfl, by intro w'; go_simp; with_reducible rfl⟩) (by simp only [aq_]; rfl) ?_
        refine take_ (i := 1) (N := some 64) (v := ?_) (a' := ?_) q94_43 rfl rfl (take_ofW HT_.out HW_.out (by kernel_rfl)) (fun _ _ _ h => h) (Or.inl ⟨by rfl, ?_⟩) hHeld ?_ ?_
        rotate_left
        ·rintro w' ⟨s0, s1, s2, s3, s4, s5, s6, s7, s8, s9, s10, s11, s12, s13, s14⟩
         go_simp
         with_reducible rfl
        rotate_left
        ·simp only [aq_]
         rfl
        refine take_ (i := 3) (N := some 66) (v := ?_) (a' := ?_) q94_44 rfl rfl (take_ofW HT_.out HW_.out (by kernel_rfl)) (fun _ _ _ h => h) (Or.inl ⟨by rfl, ?_⟩) hHeld ?_ ?_
        rotate_left
        ·rintro w' ⟨s0, s1, s2, s3, s4, s5, s6, s7, s8, s9, s10, s11, s12, s13, s14⟩
         go_simp
         with_reducible rfl
        rotate_left
        ·simp only [aq_]
         rfl
        refine pup_ (i := 4) (N := some 67) HT_ rfl rfl (by kernel_rfl) (fun _ _ _ h => h) (Or.inl ⟨by rfl, by intro w'; go_simp; with_reducible rfl⟩) (by simp only [aq_]; rfl) ?_
        refine pup_ (i := 5) (N := some 68) HT_ rfl rfl (by kernel_rfl) (fun _ _ _ h => h) (Or.inl ⟨by rfl, by intro w'; go_simp; with_reducible rfl⟩) (by simp only [aq_]; rfl) ?_
        refine pup_ (i := 6) (N := some 69) HT_ rfl rfl (by kernel_rfl) (fun _ _ _ h => h) (Or.inl ⟨by rfl, by intro w'; go_simp; with_reducible rfl⟩) (by simp only [aq_]; rfl) ?_
        refine pup_ (i := 8) (N := some 71) HT_ rfl rfl (by kernel_rfl) (fun _ _ _ h => h) (Or.inl ⟨by rfl, by intro w'; go_simp; with_reducible rfl⟩) (by simp only [aq_]; rfl) ?_
        refine take_ (i := 7) (N := some 70) (v := ?_) (a' := ?_) q94_49 rfl rfl (take_ofW HT_.out HW_.out (by kernel_rfl)) (fun _ _ _ h => h) (Or.inl ⟨by rfl, ?_⟩) hHeld ?_ ?_
        rotate_left
        ·rintro w' ⟨s0, s1, s2, s3, s4, s5, s6, s7, s8, s9, s10, s11, s12, s13, s14⟩
         go_simp
         with_reducible rfl
        rotate_left
        ·simp only [aq_]
         rfl
        refine take_ (i := 9) (N := some 72) (v := ?_) (a' := ?_) q94_50 rfl rfl (take_ofW HT_.out HW_.out (by kernel_rfl)) (fun _ _ _ h => h) (Or.inl ⟨by rfl, ?_⟩) hHeld ?_ ?_
        rotate_left
        ·rintro w' ⟨s0, s1, s2, s3, s4, s5, s6, s7, s8, s9, s10, s11, s12, s13, s14⟩
         go_simp
         with_reducible rfl
        rotate_left
        ·simp only [aq_]
         rfl
        refine pup_ (i := 10) (N := some 73) HT_ rfl rfl (by kernel_rfl) (fun _ _ _ h => h) (Or.inl ⟨by rfl, by intro w'; go_simp; with_reducible rfl⟩) (by simp only [aq_]; rfl) ?_
        refine pup_ (i := 11) (N := some 74) HT_ rfl rfl (by kernel_rfl) (fun _ _ _ h => h) (Or.inl ⟨by rfl, by intro w'; go_simp; with_reducible rfl⟩) (by simp only [aq_]; rfl) ?_
        refine pup_ (i := 12) (N := some 75) HT_ rfl rfl (by kernel_rfl) (fun _ _ _ h => h) (Or.inl ⟨by rfl, by intro w'; go_simp; with_reducible rfl⟩) (by simp only [aq_]; rfl) ?_
        refine pup_ (i := 14) (N := some 77) HT_ rfl rfl (by kernel_rfl) (fun _ _ _ h => h) (Or.inl ⟨by rfl, by intro w'; go_simp; with_reducible rfl⟩) (by simp only [aq_]; rfl) ?_
        refine pup_ (i := 16) (N := some 79) HT_ rfl rfl (by kernel_rfl) (fun _ _ _ h => h) (Or.inl ⟨by rfl, by intro w'; go_simp; with_reducible rfl⟩) (by simp only [aq_]; rfl) ?_
        refine pup_ (i := 22) (N := some 85) HT_ rfl rfl (by kernel_rfl) (fun _ _ _ h => h) (Or.inl ⟨by rfl, by intro w'; go_simp; with_reducible rfl⟩) (by simp only [aq_]; rfl) ?_
        refine take_ (i := 13) (N := some 76) (v := ?_) (a' := ?_) q94_72 rfl rfl (take_ofW HT_.out HW_.out (by kernel_rfl)) (fun _ _ _ h => h) (Or.inl ⟨by rfl, ?_⟩) hHeld ?_ ?_
        rotate_left
        ·rintro w' ⟨s0, s1, s2, s3, s4, s5, s6, s7, s8, s9, s10, s11, s12, s13, s14⟩
         go_simp
         with_reducible rfl
        rotate_left
        ·simp only [aq_]
         rfl
        refine take_ (i := 15) (N := some 78) (v := ?_) (a' := ?_) q94_73 rfl rfl (take_ofW HT_.out HW_.out (by kernel_rfl)) (fun _ _ _ h => h) (Or.inl ⟨by rfl, ?_⟩) hHeld ?_ ?_
        rotate_left
        ·rintro w' ⟨s0, s1, s2, s3, s4, s5, s6, s7, s8, s9, s10, s11, s12, s13, s14⟩
         go_simp
         with_reducible rfl
        rotate_left
        ·simp only [aq_]
         rfl
        refine take_ (i := 17) (N := some 80) (v := ?_) (a' := ?_) q94_74 rfl rfl (take_ofW HT_.out HW_.out (by kernel_rfl)) (fun _ _ _ h => h) (Or.inl ⟨by rfl, ?_⟩) hHeld ?_ ?_
        rotate_left
        ·rintro w' ⟨s0, s1, s2, s3, s4, s5, s6, s7, s8, s9, s10, s11, s12, s13, s14⟩
         go_simp
         with_reducible rfl
        rotate_left
        ·simp only [aq_]
         rfl
        refine pup_ (i := 18) (N := some 81) HT_ rfl rfl (by kernel_rfl) (fun _ _ _ h => h) (Or.inl ⟨by rfl, by intro w'; go_simp; with_reducible rfl⟩) (by simp only [aq_]; rfl) ?_
        refine pup_ (i := 19) (N := some 82) HT_ rfl rfl (by kernel_rfl) (fun _ _ _ h => h) (Or.inl ⟨by rfl, by intro w'; go_simp; with_reducible rfl⟩) (by simp only [aq_]; rfl) ?_
        refine take_ (i := 20) (N := some 83) (v := ?_) (a' := ?_) q94_77 rfl rfl (take_ofW HT_.out HW_.out (by kernel_rfl)) (fun _ _ _ h => h) (Or.inl ⟨by rfl, ?_⟩) hHeld ?_ ?_
        rotate_left
        ·rintro w' ⟨s0, s1, s2, s3, s4, s5, s6, s7, s8, s9, s10, s11, s12, s13, s14⟩
         go_simp
         with_reducible rfl
        rotate_left
        ·simp only [aq_]
         rfl
        refine pup_ (i := 21) (N := some 84) HT_ rfl rfl (by kernel_rfl) (fun _ _ _ h => h) (Or.inl ⟨by rfl, by intro w'; go_simp; with_reducible rfl⟩) (by simp only [aq_]; rfl) ?_
        refine take_ (i := 23) (N := some 86) (v := ?_) (a' := ?_) q94_64 rfl rfl (take_ofW HT_.out HW_.out (by kernel_rfl)) (fun _ _ _ h => h) (Or.inl ⟨by rfl, ?_⟩) hHeld ?_ ?_
        rotate_left
        ·rintro w' ⟨s0, s1, s2, s3, s4, s5, s6, s7, s8, s9, s10, s11, s12, s13, s14⟩
         go_simp
         with_reducible rfl
        rotate_left
        ·simp only [aq_]
         rfl
        refine pup_ (i := 24) (N := some 87) HT_ rfl rfl (by kernel_rfl) (fun _ _ _ h => h) (Or.inl ⟨by rfl, by intro w'; go_simp; with_reducible rfl⟩) (by simp only [aq_]; rfl) ?_
        refine pup_ (i := 25) (N := some 88) HT_ rfl rfl (by kernel_rfl) (fun _ _ _ h => h) (Or.inl ⟨by rfl, by intro w'; go_simp; with_reducible rfl⟩) (by simp only [aq_]; rfl) ?_
        refine pup_ (i := 26) (N := some 89) HT_ rfl rfl (by kernel_rfl) (fun _ _ _ h => h) (Or.inl ⟨by rfl, by intro w'; go_simp; with_reducible rfl⟩) (by simp only [aq_]; rfl) ?_
        refine done_ (done_of HT_.out (by kernel_rfl)) ?_
        try go_wp2
        go_ret
        exact ⟨by first | rfl | (simp [errW_none, errW_some] <;> rfl) | (simp [*, errW_none, errW_some] <;> rfl), by repeat (first | (with_reducible first | exact bw HB.out | refine bset ?_ | apply bA | apply bN | apply bD) | exact HB.out)⟩
       rw [if_neg c41] at H
       have c41b0 : decide (((rd_T98 l0_4 x3_1).f2) < (wrap64 (((rd_T98 l0_4 x5_3).f2) + ((rd_T61 l0_3 ((rd_T98 l0_4 x5_3).f0)).f0)))) = false := decide_eq_false c41
       clear c41
       have H' := Aside0.mk H
       clear H
       have hnb50 := NB456_458.out
       have hnc50 := NB458_456.out
       obtain ⟨hcz51_0, hcz51_1, hcz51_2, hcz51_3, hcz51_4, hfz51_0, hfz51_1, hfz51_2, hfz51_3, hfz51_4⟩ := bz5 BK456.out
       have p462 : 0 ≤ (x5_3 : Int) := of_decide_eq_true (by first | (with_reducible assumption) | assumption)
       have q462 : x5_3 < (l0_4.length : Int) := of_decide_eq_true (by first | (with_reducible assumption) | assumption)
       obtain ⟨ad462, e462, hx462_0, hx462_1, hx462_2⟩ := at_T98 HR0_4.out x5_3 p462 q462
       obtain rfl : ad457 = ad462 := (by injection e462)
       replace hx462_0 := (HB.out.cell (World.block_lt_of_cell? w _ hx462_0)).trans hx462_0
       replace hx462_1 := (HB.out.cell (World.block_lt_of_cell? w _ hx462_1)).trans hx462_1
       replace hx462_2 := (HB.out.cell (World.block_lt_of_cell? w _ hx462_2)).trans hx462_2
       replace p462 := eq_true p462
       replace q462 := eq_true q462
       try go_wp2_with (first | ((with_reducible refine gate_dst (N := 6) rfl ?_); refine box_event ?hg (N := 6) ?hd (cs := #[.int .i64 0, .int .i64 0, .int .i64 0]) (t := 98) ?hr ?_; (case hd => rfl); (case hg => rfl); (case hr => first | (go_simp; done) | (go_simp; rfl)); intro gb463 hg w52 hbox hb; have n0_ := Aside0.mk (blk_below (bs BK456.out) hb); have n1_ := Aside0.mk (blk_below (bs BK458.out) hb); have n2_ := Aside0.mk (below_step (by repeat (first | (with_reducible first | exact bw HB.out | refine bset ?_ | apply bA | apply bN | apply bD) | exact HB.out)) hb); have n3_ := Aside0.mk (hbox); have n4_ := Aside0.mk ((by rw [hg]; exact (below_size (by repeat (first | (with_reducible first | exact bw HB.out | refine bset ?_ | apply bA | apply bN | apply bD) | exact HB.out))) : w.heap.size ≤ gb463)); have n5_ := Aside0.mk ((by rw [hg]; exact (below_size (by repeat (first | (with_reducible first | exact bw HB.out | refine bset ?_ | apply bA | apply bN | apply bD) | exact HB.out))) : w.heap.size ≤ gb463)); have n6_ := ne_ hg BK456.out; have n7_ := en_ hg BK456.out; have n8_ := ne_ hg BK458.out; have n9_ := en_ hg BK458.out; replace BK456 := n0_; replace BK458 := n1_; replace HB := n2_; have BK463 := n3_; have GW463 := n4_; have GE463 := n5_; have NB456_463 := n6_; have NB463_456 := n7_; have NB458_463 := n8_; have NB463_458 := n9_; clear n0_ n1_ n2_ n3_ n4_ n5_ n6_ n7_ n8_ n9_; clear hb hbox hg; have hnb53 := NB463_456.out; have hnc53 := NB456_463.out; have hnb54 := NB463_458.out; have hnc54 := NB458_463.out; obtain ⟨hcz55_0, hcz55_1, hcz55_2, hfz55_0, hfz55_1, hfz55_2⟩ := bz3 BK463.out))
       have n0_ : Aside0 ((((w52.setCell ⟨gb463, 0, none⟩ (.int .i64 ((rd_T98 l0_4 x5_3).f0))).setCell ⟨gb463, 1, none⟩ (.int .i64 ((rd_T98 l0_4 x5_3).f1))).setCell ⟨gb463, 2, none⟩ (.int .i64 ((rd_T98 l0_4 x5_3).f2))).heap[gb456]? = some (.cells #[.int .i64 a0_0, .int .i64 a0_1, .int .i64 a0_2, .slice A0_3 l0_3.length c0_3, .slice (some ad457) l0_4.length c0_4] 43 (0, 0))) := ⟨by (with_reducible repeat (first | refine blk_drewN ?_ _ | refine blk_drew ?_ | refine blk_alloc ?_ _)); refine blk_far ?_ NB456_463.out _; (with_reducible repeat (first | refine blk_drewN ?_ _ | refine blk_drew ?_ | refine blk_alloc ?_ _)); refine blk_far ?_ NB456_463.out _; (with_reducible repeat (first | refine blk_drewN ?_ _ | refine blk_drew ?_ | refine blk_alloc ?_ _)); refine blk_far ?_ NB456_463.out _; exact bs BK456.out⟩
       have n1_ : Aside0 ((((w52.setCell ⟨gb463, 0, none⟩ (.int .i64 ((rd_T98 l0_4 x5_3).f0))).setCell ⟨gb463, 1, none⟩ (.int .i64 ((rd_T98 l0_4 x5_3).f1))).setCell ⟨gb463, 2, none⟩ (.int .i64 ((rd_T98 l0_4 x5_3).f2))).heap[gb458]? = some (.cells #[.int .i64 ((rd_T98 l0_4 x3_1).f0), .int .i64 ((rd_T98 l0_4 x3_1).f1), .int .i64 ((rd_T98 l0_4 x3_1).f2)] 98 (0, 0))) := ⟨by (with_reducible repeat (first | refine blk_drewN ?_ _ | refine blk_drew ?_ | refine blk_alloc ?_ _)); refine blk_far ?_ NB458_463.out _; (with_reducible repeat (first | refine blk_drewN ?_ _ | refine blk_drew ?_ | refine blk_alloc ?_ _)); refine blk_far ?_ NB458_463.out _; (with_reducible repeat (first | refine blk_drewN ?_ _ | refine blk_drew ?_ | refine blk_alloc ?_ _)); refine blk_far ?_ NB458_463.out _; exact bs BK458.out⟩
       have n2_ : Aside0 ((((w52.setCell ⟨gb463, 0, none⟩ (.int .i64 ((rd_T98 l0_4 x5_3).f0))).setCell ⟨gb463, 1, none⟩ (.int .i64 ((rd_T98 l0_4 x5_3).f1))).setCell ⟨gb463, 2, none⟩ (.int .i64 ((rd_T98 l0_4 x5_3).f2))).heap[gb463]? = some (.cells #[.int .i64 ((rd_T98 l0_4 x5_3).f0), .int .i64 ((rd_T98 l0_4 x5_3).f1), .int .i64 ((rd_T98 l0_4 x5_3).f2)] 98 (0, 0))) := ⟨by (with_reducible repeat (first | refine blk_drewN ?_ _ | refine blk_drew ?_ | refine blk_alloc ?_ _)); refine blk_put (cs := #[.int .i64 ((rd_T98 l0_4 x5_3).f0), .int .i64 ((rd_T98 l0_4 x5_3).f1), .int .i64 0]) ?_ 2 _ rfl; (with_reducible repeat (first | refine blk_drewN ?_ _ | refine blk_drew ?_ | refine blk_alloc ?_ _)); refine blk_put (cs := #[.int .i64 ((rd_T98 l0_4 x5_3).f0), .int .i64 0, .int .i64 0]) ?_ 1 _ rfl; (with_reducible repeat (first | refine blk_drewN ?_ _ | refine blk_drew ?_ | refine blk_alloc ?_ _)); refine blk_put (cs := #[.int .i64 0, .int .i64 0, .int .i64 0]) ?_ 0 _ rfl; exact bs BK463.out⟩
       have n3_ : Aside0 (Below w.heap.size w (((w52.setCell ⟨gb463, 0, none⟩ (.int .i64 ((rd_T98 l0_4 x5_3).f0))).setCell ⟨gb463, 1, none⟩ (.int .i64 ((rd_T98 l0_4 x5_3).f1))).setCell ⟨gb463, 2, none⟩ (.int .i64 ((rd_T98 l0_4 x5_3).f2)))) := ⟨by repeat (first | (with_reducible first | exact bw HB.out | refine bset ?_ | apply bA | apply bN | apply bD) | exact HB.out)⟩
       (try clear BK456)
       (try clear BK458)
       (try clear BK463)
       (try clear HB)
       (try simp only [setCell_drewN])
       generalize (((w52.setCell ⟨gb463, 0, none⟩ (.int .i64 ((rd_T98 l0_4 x5_3).f0))).setCell ⟨gb463, 1, none⟩ (.int .i64 ((rd_T98 l0_4 x5_3).f1))).setCell ⟨gb463, 2, none⟩ (.int .i64 ((rd_T98 l0_4 x5_3).f2))) = w56 at n0_ n1_ n2_ n3_ ⊢
       have BK456 := n0_
       have BK458 := n1_
       have BK463 := n2_
       have HB := n3_
       clear n0_ n1_ n2_ n3_
       have n0_ := Aside0.mk (blk_drew BK456.out)
       have n1_ := Aside0.mk (blk_drew BK458.out)
       have n2_ := Aside0.mk (blk_drew BK463.out)
       have n3_ := Aside0.mk (below_drew1 HB.out)
       replace BK456 := n0_
       replace BK458 := n1_
       replace BK463 := n2_
       replace HB := n3_
       clear n0_ n1_ n2_ n3_
       have p464 : 0 ≤ (((rd_T98 l0_4 x5_3).f0) : Int) := of_decide_eq_true (by first | (with_reducible assumption) | assumption)
       have q464 : ((rd_T98 l0_4 x5_3).f0) < (l0_3.length : Int) := of_decide_eq_true (by first | (with_reducible assumption) | assumption)
       obtain ⟨ad464, e464, hx464_0, hx464_1, hx464_2, hx464_3⟩ := at_T61 HR0_3.out ((rd_T98 l0_4 x5_3).f0) p464 q464
       have hw464_3 := hx464_3
       have hw464_2 := hx464_2
       have hw464_1 := hx464_1
       have hw464_0 := hx464_0
       cases e464
       replace hx464_0 := (HB.out.cell (World.block_lt_of_cell? w _ hx464_0)).trans hx464_0
       replace hx464_1 := (HB.out.cell (World.block_lt_of_cell? w _ hx464_1)).trans hx464_1
       replace hx464_2 := (HB.out.cell (World.block_lt_of_cell? w _ hx464_2)).trans hx464_2
       replace hx464_3 := (HB.out.cell (World.block_lt_of_cell? w _ hx464_3)).trans hx464_3
       replace p464 := eq_true p464
       replace q464 := eq_true q464
       refine start_ (n := 27) (S := fun w' => w'.cell? ⟨gb463, 0, none⟩ = some (.int .i64 ((rd_T98 l0_4 x5_3).f0)) ∧ w'.cell? ⟨gb463, 1, none⟩ = some (.int .i64 ((rd_T98 l0_4 x5_3).f1)) ∧ w'.cell? ⟨gb463, 2, none⟩ = some (.int .i64 ((rd_T98 l0_4 x5_3).f2)) ∧ w'.cell? ⟨gb458, 0, none⟩ = some (.int .i64 ((rd_T98 l0_4 x3_1).f0)) ∧ w'.cell? ⟨gb458, 1, none⟩ = some (.int .i64 ((rd_T98 l0_4 x3_1).f1)) ∧ w'.cell? ⟨gb458, 2, none⟩ = some (.int .i64 ((rd_T98 l0_4 x3_1).f2)) ∧ w'.cell? ⟨gb456, 0, none⟩ = some (.int .i64 a0_0) ∧ w'.cell? ⟨gb456, 1, none⟩ = some (.int .i64 a0_1) ∧ w'.cell? ⟨gb456, 2, none⟩ = some (.int .i64 a0_2) ∧ w'.cell? ⟨gb456, 3, none⟩ = some (.slice (some ad464) l0_3.length c0_3) ∧ w'.cell? ⟨gb456, 4, none⟩ = some (.slice (some ad457) l0_4.length c0_4) ∧ w'.cell? (ad464.add ((((rd_T98 l0_4 x5_3).f0)).toNat * 4)) = some (.int .i64 ((rd_T61 l0_3 ((rd_T98 l0_4 x5_3).f0)).f0)) ∧ w'.cell? ⟨(ad464.add ((((rd_T98 l0_4 x5_3).f0)).toNat * 4)).block, (ad464.add ((((rd_T98 l0_4 x5_3).f0)).toNat * 4)).off + 1, none⟩ = some (.int .i64 ((rd_T61 l0_3 ((rd_T98 l0_4 x5_3).f0)).f1)) ∧ w'.cell? ⟨(ad464.add ((((rd_T98 l0_4 x5_3).f0)).toNat * 4)).block, (ad464.add ((((rd_T98 l0_4 x5_3).f0)).toNat * 4)).off + 2, none⟩ = some (.int .i64 ((rd_T61 l0_3 ((rd_T98 l0_4 x5_3).f0)).f2)) ∧ w'.cell? ⟨(ad464.add ((((rd_T98 l0_4 x5_3).f0)).toNat * 4)).block, (ad464.add ((((rd_T98 l0_4 x5_3).f0)).toNat * 4)).off + 3, none⟩ = some (.int .i64 ((rd_T61 l0_3 ((rd_T98 l0_4 x5_3).f0)).f3))) (ds := []) q94_40 (by kernel_rfl) rfl rfl ⟨(blk_cell BK463.out 0).trans rfl, (blk_cell BK463.out 1).trans rfl, (blk_cell BK463.out 2).trans rfl, (blk_cell BK458.out 0).trans rfl, (blk_cell BK458.out 1).trans rfl, (blk_cell BK458.out 2).trans rfl, (blk_cell BK456.out 0).trans rfl, (blk_cell BK456.out 1).trans rfl, (blk_cell BK456.out 2).trans rfl, (blk_cell BK456.out 3).trans rfl, (blk_cell BK456.out 4).trans rfl, (bcl_ HB.out hw464_0 :), (bcl_ HB.out hw464_1 :), (bcl_ HB.out hw464_2 :), (bcl_ HB.out hw464_3 :)⟩ (fun hHeld => ?_); refine with_tabW spec_l12Tasks.tab11 spec_l12Tasks.bits11 (fun HT_ HW_ => ?_)
       generalize w56.drew = w57 at BK456 BK458 BK463 HB hx464_0 hx464_1 hx464_2 hx464_3 hHeld ⊢
       refine pup_ (i := 0) (N := some 63) HT_ rfl rfl (by kernel_rfl) (fun _ _ _ h => h) (Or.inl ⟨by rfl, by intro w'; go_simp; with_reducible rfl⟩) (by simp only [aq_]; rfl) ?_
       refine pup_ (i := 2) (N := some 65) HT_ rfl rfl (by kernel_rfl) (fun _ _ _ h => h) (Or.inl ⟨by rfl, by intro w'; go_simp; with_reducible rfl⟩) (by simp only [aq_]; rfl) ?_
       refine take_ (i := 1) (N := some 64) (v := ?_) (a' := ?_) q94_43 rfl rfl (take_ofW HT_.out HW_.out (by kernel_rfl)) (fun _ _ _ h => h) (Or.inl ⟨by rfl, ?_⟩) hHeld ?_ ?_
       rotate_left
       ·rintro w' ⟨s0, s1, s2, s3, s4, s5, s6, s7, s8, s9, s10, s11, s12, s13, s14⟩
        go_simp
        with_reducible rfl
       rotate_left
       ·simp only [aq_]
        rfl
       refine take_ (i := 3) (N := some 66) (v := ?_) (a' := ?_) q94_44 rfl rfl (take_ofW HT_.out HW_.out (by kernel_rfl)) (fun _ _ _ h => h) (Or.inl ⟨by rfl, ?_⟩) hHeld ?_ ?_
       rotate_left
       ·rintro w' ⟨s0, s1, s2, s3, s4, s5, s6, s7, s8, s9, s10, s11, s12, s13, s14⟩
        go_simp
        with_reducible rfl
       rotate_left
       ·simp only [aq_]
        rfl
       refine pup_ (i := 4) (N := some 67) HT_ rfl rfl (by kernel_rfl) (fun _ _ _ h => h) (Or.inl ⟨by rfl, by intro w'; go_simp; with_reducible rfl⟩) (by simp only [aq_]; rfl) ?_
       refine pup_ (i := 5) (N := some 68) HT_ rfl rfl (by kernel_rfl) (fun _ _ _ h => h) (Or.inl ⟨by rfl, by intro w'; go_simp; with_reducible rfl⟩) (by simp only [aq_]; rfl) ?_
       refine pup_ (i := 6) (N := some 69) HT_ rfl rfl (by kernel_rfl) (fun _ _ _ h => h) (Or.inl ⟨by rfl, by intro w'; go_simp; with_reducible rfl⟩) (by simp only [aq_]; rfl) ?_
       refine pup_ (i := 8) (N := some 71) HT_ rfl rfl (by kernel_rfl) (fun _ _ _ h => h) (Or.inl ⟨by rfl, by intro w'; go_simp; with_reducible rfl⟩) (by simp only [aq_]; rfl) ?_
       refine take_ (i := 7) (N := some 70) (v := ?_) (a' := ?_) q94_49 rfl rfl (take_ofW HT_.out HW_.out (by kernel_rfl)) (fun _ _ _ h => h) (Or.inl ⟨by rfl, ?_⟩) hHeld ?_ ?_
       rotate_left
       ·rintro w' ⟨s0, s1, s2, s3, s4, s5, s6, s7, s8, s9, s10, s11, s12, s13, s14⟩
        go_simp
        with_reducible rfl
       rotate_left
       ·simp only [aq_]
        rfl
       refine take_ (i := 9) (N := some 72) (v := ?_) (a' := ?_) q94_50 rfl rfl (take_ofW HT_.out HW_.out (by kernel_rfl)) (fun _ _ _ h => h) (Or.inl ⟨by rfl, ?_⟩) hHeld ?_ ?_
       rotate_left
       ·rintro w' ⟨s0, s1, s2, s3, s4, s5, s6, s7, s8, s9, s10, s11, s12, s13, s14⟩
        go_simp
        with_reducible rfl
       rotate_left
       ·simp only [aq_]
        rfl
       refine pup_ (i := 10) (N := some 73) HT_ rfl rfl (by kernel_rfl) (fun _ _ _ h => h) (Or.inl ⟨by rfl, by intro w'; go_simp; with_reducible rfl⟩) (by simp only [aq_]; rfl) ?_
       refine pup_ (i := 11) (N := some 74) HT_ rfl rfl (by kernel_rfl) (fun _ _ _ h => h) (Or.inl ⟨by rfl, by intro w'; go_simp; with_reducible rfl⟩) (by simp only [aq_]; rfl) ?_
       refine pup_ (i := 12) (N := some 75) HT_ rfl rfl (by kernel_rfl) (fun _ _ _ h => h) (Or.inl ⟨by rfl, by intro w'; go_simp; with_reducible rfl⟩) (by simp only [aq_]; rfl) ?_
       refine pup_ (i := 14) (N := some 77) HT_ rfl rfl (by kernel_rfl) (fun _ _ _ h => h) (Or.inl ⟨by rfl, by intro w'; go_simp; with_reducible rfl⟩) (by simp only [aq_]; rfl) ?_
       refine pup_ (i := 16) (N := some 79) HT_ rfl rfl (by kernel_rfl) (fun _ _ _ h => h) (Or.inl ⟨by rfl, by intro w'; go_simp; with_reducible rfl⟩) (by simp only [aq_]; rfl) ?_
       refine pup_ (i := 22) (N := some 85) HT_ rfl rfl (by kernel_rfl) (fun _ _ _ h => h) (Or.inl ⟨by rfl, by intro w'; go_simp; with_reducible rfl⟩) (by simp only [aq_]; rfl) ?_
       refine take_ (i := 13) (N := some 76) (v := ?_) (a' := ?_) q94_72 rfl rfl (take_ofW HT_.out HW_.out (by kernel_rfl)) (fun _ _ _ h => h) (Or.inl ⟨by rfl, ?_⟩) hHeld ?_ ?_
       rotate_left
       ·rintro w' ⟨s0, s1, s2, s3, s4, s5, s6, s7, s8, s9, s10, s11, s12, s13, s14⟩
        go_simp
        with_reducible rfl
       rotate_left
       ·simp only [aq_]
        rfl
       refine take_ (i := 15) (N := some 78) (v := ?_) (a' := ?_) q94_73 rfl rfl (take_ofW HT_.out HW_.out (by kernel_rfl)) (fun _ _ _ h => h) (Or.inl ⟨by rfl, ?_⟩) hHeld ?_ ?_
       rotate_left
       ·rintro w' ⟨s0, s1, s2, s3, s4, s5, s6, s7, s8, s9, s10, s11, s12, s13, s14⟩
        go_simp
        with_reducible rfl
       rotate_left
       ·simp only [aq_]
        rfl
       refine take_ (i := 17) (N := some 80) (v := ?_) (a' := ?_) q94_74 rfl rfl (take_ofW HT_.out HW_.out (by kernel_rfl)) (fun _ _ _ h => h) (Or.inl ⟨by rfl, ?_⟩) hHeld ?_ ?_
       rotate_left
       ·rintro w' ⟨s0, s1, s2, s3, s4, s5, s6, s7, s8, s9, s10, s11, s12, s13, s14⟩
        go_simp
        with_reducible rfl
       rotate_left
       ·simp only [aq_]
        rfl
       refine pup_ (i := 18) (N := some 81) HT_ rfl rfl (by kernel_rfl) (fun _ _ _ h => h) (Or.inl ⟨by rfl, by intro w'; go_simp; with_reducible rfl⟩) (by simp only [aq_]; rfl) ?_
       refine pup_ (i := 19) (N := some 82) HT_ rfl rfl (by kernel_rfl) (fun _ _ _ h => h) (Or.inl ⟨by rfl, by intro w'; go_simp; with_reducible rfl⟩) (by simp only [aq_]; rfl) ?_
       refine take_ (i := 20) (N := some 83) (v := ?_) (a' := ?_) q94_77 rfl rfl (take_ofW HT_.out HW_.out (by kernel_rfl)) (fun _ _ _ h => h) (Or.inl ⟨by rfl, ?_⟩) hHeld ?_ ?_
       rotate_left
       ·rintro w' ⟨s0, s1, s2, s3, s4, s5, s6, s7, s8, s9, s10, s11, s12, s13, s14⟩
        go_simp
        with_reducible rfl
       rotate_left
       ·simp only [aq_]
        rfl
       refine pup_ (i := 21) (N := some 84) HT_ rfl rfl (by kernel_rfl) (fun _ _ _ h => h) (Or.inl ⟨by rfl, by intro w'; go_simp; with_reducible rfl⟩) (by simp only [aq_]; rfl) ?_
       refine take_ (i := 23) (N := some 86) (v := ?_) (a' := ?_) q94_64 rfl rfl (take_ofW HT_.out HW_.out (by kernel_rfl)) (fun _ _ _ h => h) (Or.inl ⟨by rfl, ?_⟩) hHeld ?_ ?_
       rotate_left
       ·rintro w' ⟨s0, s1, s2, s3, s4, s5, s6, s7, s8, s9, s10, s11, s12, s13, s14⟩
        go_simp
        with_reducible rfl
       rotate_left
       ·simp only [aq_]
        rfl
       refine pup_ (i := 24) (N := some 87) HT_ rfl rfl (by kernel_rfl) (fun _ _ _ h => h) (Or.inl ⟨by rfl, by intro w'; go_simp; with_reducible rfl⟩) (by simp only [aq_]; rfl) ?_
       refine pup_ (i := 25) (N := some 88) HT_ rfl rfl (by kernel_rfl) (fun _ _ _ h => h) (Or.inl ⟨by rfl, by intro w'; go_simp; with_reducible rfl⟩) (by simp only [aq_]; rfl) ?_
       refine pup_ (i := 26) (N := some 89) HT_ rfl rfl (by kernel_rfl) (fun _ _ _ h => h) (Or.inl ⟨by rfl, by intro w'; go_simp; with_reducible rfl⟩) (by simp only [aq_]; rfl) ?_
       refine done_ (done_of HT_.out (by kernel_rfl)) ?_
       try go_wp2
       go_roundg k3
       case measure => have := HK1.out; have := HJ4.out; have := HK3.out; omega
       case rel => exact ⟨(wrap64 (x5_3 + 1)), (by first | rfl | (simp; done) | (simp [*]; done)), H', ⟨by have := HK1.out; have := HJ4.out; have := HK3.out; omega⟩, ⟨bs BK456.out⟩, ⟨bs BK458.out⟩, ⟨by repeat (first | (with_reducible first | exact bw HB.out | refine bset ?_ | apply bA | apply bN | apply bD) | exact HB.out)⟩⟩

/-! ### spec_l12Good: function 73 -/
def spec_l12Good.f (k : Nat) (a0_0 : Int) (a0_1 : Int) (a0_2 : Int) (l0_3 : List (S61)) (l0_4 : List (S98)) : Option (Bool) := (spec_l1In.f a0_0 1 4).bind fun t469 => (if t469 = true then ((spec_l1In.f a0_1 1 4).bind fun t470 => (if t470 = true then ((spec_l1In.f a0_2 0 1000).bind fun t471 => (if t471 = true then ((spec_l2Good.f k l0_3).bind fun t472 => (if t472 = true then ((spec_l12Tasks.f k a0_0 a0_1 a0_2 l0_3 l0_4).bind fun t473 => (some t473)) else (some false))) else (some false))) else (some false))) else (some false))
theorem spec_l12Good.mono : ∀ a0 a1 a2 a3 a4 k, LeO (spec_l12Good.f k a0 a1 a2 a3 a4) (spec_l12Good.f (k + 1) a0 a1 a2 a3 a4) := by
 intro a0 a1 a2 a3 a4 k
 unfold spec_l12Good.f
 repeat' first
   | (with_reducible exact spec_l12Tasks.mono _ _ _ _ _ _)
   | (with_reducible exact spec_l2Good.mono _ _)
   | (with_reducible exact LeO.refl _)
   | (with_reducible exact LeO.none _)
   | (with_reducible refine LeO.ite ?_ ?_)
   | (with_reducible refine LeO.bind ?_ (fun _ => ?_))
   | exact spec_l12Tasks.mono _ _ _ _ _ _
   | exact spec_l2Good.mono _ _
   | exact LeO.none _
   | refine LeO.ite ?_ ?_
   | refine LeO.bind ?_ (fun _ => ?_)
set_option maxHeartbeats 8000000 in
set_option maxRecDepth 100000 in
theorem spec_l12Good.calls (k : Nat) (a0_0 : Int) (a0_1 : Int) (a0_2 : Int) (A0_3 : Option Addr) (c0_3 : Nat) (l0_3 : List (S61)) (A0_4 : Option Addr) (c0_4 : Nat) (l0_4 : List (S98)) (r : Bool) (w : World) (hr0_3 : Kd.C k61 w A0_3 l0_3.length l0_3) (hc0_3 : l0_3.length ≤ c0_3) (hr0_4 : Kd.C k98 w A0_4 l0_4.length l0_4) (hc0_4 : l0_4.length ≤ c0_4) (h : spec_l12Good.f k a0_0 a0_1 a0_2 l0_3 l0_4 = some r) :
  Calls Try.prog 73 #[.agg #[.int .i64 a0_0, .int .i64 a0_1, .int .i64 a0_2, .slice A0_3 l0_3.length c0_3, .slice A0_4 l0_4.length c0_4]] w fun e w' => e = .returned (.bool r) ∧ Below w.heap.size w w' := by
 have hu43 := Try.underlying43
 have HR0_3 := Aside0.mk hr0_3
 have HC0_3 := Aside0.mk hc0_3
 clear hr0_3 hc0_3
 have HR0_4 := Aside0.mk hr0_4
 have HC0_4 := Aside0.mk hc0_4
 clear hr0_4 hc0_4
 have HB := Aside0.mk (Below.refl w.heap.size w)
 have H : ((spec_l1In.f a0_0 1 4).bind fun t469 => (if t469 = true then ((spec_l1In.f a0_1 1 4).bind fun t470 => (if t470 = true then ((spec_l1In.f a0_2 0 1000).bind fun t471 => (if t471 = true then ((spec_l2Good.f k l0_3).bind fun t472 => (if t472 = true then ((spec_l12Tasks.f k a0_0 a0_1 a0_2 l0_3 l0_4).bind fun t473 => (some t473)) else (some false))) else (some false))) else (some false))) else (some false))) = some r := h
 clear h
 replace H := Option.bind_eq_some_iff.mp H
 obtain ⟨t469, A20, H⟩ := H
 replace H : (if t469 = true then ((spec_l1In.f a0_1 1 4).bind fun t470 => (if t470 = true then ((spec_l1In.f a0_2 0 1000).bind fun t471 => (if t471 = true then ((spec_l2Good.f k l0_3).bind fun t472 => (if t472 = true then ((spec_l12Tasks.f k a0_0 a0_1 a0_2 l0_3 l0_4).bind fun t473 => (some t473)) else (some false))) else (some false))) else (some false))) else (some false)) = some r := H
 have A2 := Aside0.mk A20
 clear A20
 by_cases c3 : t469 = true
 rotate_left
 ·replace c3 := Bool.eq_false_iff.mpr c3
  subst c3
  have H1 : (some false) = some r := by rw [if_neg (show ¬ (false = true) by decide)] at H; exact H
  clear H
  have H := H1
  clear H1
  obtain rfl := Option.some.inj H
  go_enter Try.func73, Try.ntmps73
  go_wp2_with (first | ((with_reducible refine gate_dst (N := 1) rfl ?_); refine box_event ?hg (N := 1) ?hd (cs := #[.int .i64 a0_0, .int .i64 a0_1, .int .i64 a0_2, .slice A0_3 l0_3.length c0_3, .slice A0_4 l0_4.length c0_4]) (t := 43) ?hr ?_; (case hd => rfl); (case hg => rfl); (case hr => first | (go_simp; done) | (go_simp; rfl)); intro gb468 hg w23 hbox hb; have n0_ := Aside0.mk (below_step (bw HB.out) hb); have n1_ := Aside0.mk (hbox); have n2_ := ge_ hg HB.out; have n3_ := ge_ hg HB.out; replace HB := n0_; have BK468 := n1_; have GW468 := n2_; have GE468 := n3_; clear n0_ n1_ n2_ n3_; clear hb hbox hg; obtain ⟨hcz24_0, hcz24_1, hcz24_2, hcz24_3, hcz24_4, hfz24_0, hfz24_1, hfz24_2, hfz24_3, hfz24_4⟩ := bz5 BK468.out) | ((with_reducible refine gate_callee (f := 56) rfl ?_); refine goesL_ (some 5) rfl rfl Try.func56 (by kernel_rfl) rfl #[.int .i64 a0_0, .int .i64 1, .int .i64 4] rfl (by (try simp only [mA_]); first | done | rfl | (simp only [List.length_drop, List.length_take]; rfl)) ?_; (with_reducible refine (spec_l1In.calls a0_0 1 4 false _ A2.out).mono ?_); rintro e w' ⟨rfl, ⟨nd, rfl⟩⟩; refine ⟨_, rfl, ?_⟩))
  go_ret
  exact ⟨by first | rfl | (simp [errW_none, errW_some] <;> rfl) | (simp [*, errW_none, errW_some] <;> rfl), by repeat (first | (with_reducible first | exact bw HB.out | refine bset ?_ | apply bA | apply bN | apply bD) | exact HB.out)⟩
 subst c3
 have H1 : ((spec_l1In.f a0_1 1 4).bind fun t470 => (if t470 = true then ((spec_l1In.f a0_2 0 1000).bind fun t471 => (if t471 = true then ((spec_l2Good.f k l0_3).bind fun t472 => (if t472 = true then ((spec_l12Tasks.f k a0_0 a0_1 a0_2 l0_3 l0_4).bind fun t473 => (some t473)) else (some false))) else (some false))) else (some false))) = some r := by rw [if_pos rfl] at H; exact H
 clear H
 have H := H1
 clear H1
 replace H := Option.bind_eq_some_iff.mp H
 obtain ⟨t470, A40, H⟩ := H
 replace H : (if t470 = true then ((spec_l1In.f a0_2 0 1000).bind fun t471 => (if t471 = true then ((spec_l2Good.f k l0_3).bind fun t472 => (if t472 = true then ((spec_l12Tasks.f k a0_0 a0_1 a0_2 l0_3 l0_4).bind fun t473 => (some t473)) else (some false))) else (some false))) else (some false)) = some r := H
 have A4 := Aside0.mk A40
 clear A40
 by_cases c5 : t470 = true
 rotate_left
 ·replace c5 := Bool.eq_false_iff.mpr c5
  subst c5
  have H1 : (some false) = some r := by rw [if_neg (show ¬ (false = true) by decide)] at H; exact H
  clear H
  have H := H1
  clear H1
  obtain rfl := Option.some.inj H
  go_enter Try.func73, Try.ntmps73
  go_wp2_with (first | ((with_reducible refine gate_dst (N := 1) rfl ?_); refine box_event ?hg (N := 1) ?hd (cs := #[.int .i64 a0_0, .int .i64 a0_1, .int .i64 a0_2, .slice A0_3 l0_3.length c0_3, .slice A0_4 l0_4.length c0_4]) (t := 43) ?hr ?_; (case hd => rfl); (case hg => rfl); (case hr => first | (go_simp; done) | (go_simp; rfl)); intro gb468 hg w21 hbox hb; have n0_ := Aside0.mk (below_step (bw HB.out) hb); have n1_ := Aside0.mk (hbox); have n2_ := ge_ hg HB.out; have n3_ := ge_ hg HB.out; replace HB := n0_; have BK468 := n1_; have GW468 := n2_; have GE468 := n3_; clear n0_ n1_ n2_ n3_; clear hb hbox hg; obtain ⟨hcz22_0, hcz22_1, hcz22_2, hcz22_3, hcz22_4, hfz22_0, hfz22_1, hfz22_2, hfz22_3, hfz22_4⟩ := bz5 BK468.out) | ((with_reducible refine gate_callee (f := 56) rfl ?_); refine goesL_ (some 5) rfl rfl Try.func56 (by kernel_rfl) rfl #[.int .i64 a0_0, .int .i64 1, .int .i64 4] rfl (by (try simp only [mA_]); first | done | rfl | (simp only [List.length_drop, List.length_take]; rfl)) ?_; (with_reducible refine (spec_l1In.calls a0_0 1 4 true _ A2.out).mono ?_); rintro e w' ⟨rfl, ⟨nd, rfl⟩⟩; refine ⟨_, rfl, ?_⟩) | (go_at_call 56; (with_reducible refine (spec_l1In.calls a0_1 1 4 false _ A4.out).mono ?_); rintro e w' ⟨rfl, ⟨nd, rfl⟩⟩))
  go_ret
  exact ⟨by first | rfl | (simp [errW_none, errW_some] <;> rfl) | (simp [*, errW_none, errW_some] <;> rfl), by repeat (first | (with_reducible first | exact bw HB.out | refine bset ?_ | apply bA | apply bN | apply bD) | exact HB.out)⟩
 subst c5
 have H1 : ((spec_l1In.f a0_2 0 1000).bind fun t471 => (if t471 = true then ((spec_l2Good.f k l0_3).bind fun t472 => (if t472 = true then ((spec_l12Tasks.f k a0_0 a0_1 a0_2 l0_3 l0_4).bind fun t473 => (some t473)) else (some false))) else (some false))) = some r := by rw [if_pos rfl] at H; exact H
 clear H
 have H := H1
 clear H1
 replace H := Option.bind_eq_some_iff.mp H
 obtain ⟨t471, A60, H⟩ := H
 replace H : (if t471 = true then ((spec_l2Good.f k l0_3).bind fun t472 => (if t472 = true then ((spec_l12Tasks.f k a0_0 a0_1 a0_2 l0_3 l0_4).bind fun t473 => (some t473)) else (some false))) else (some false)) = some r := H
 have A6 := Aside0.mk A60
 clear A60
 by_cases c7 : t471 = true
 rotate_left
 ·replace c7 := Bool.eq_false_iff.mpr c7
  subst c7
  have H1 : (some false) = some r := by rw [if_neg (show ¬ (false = true) by decide)] at H; exact H
  clear H
  have H := H1
  clear H1
  obtain rfl := Option.some.inj H
  go_enter Try.func73, Try.ntmps73
  go_wp2_with (first | ((with_reducible refine gate_dst (N := 1) rfl ?_); refine box_event ?hg (N := 1) ?hd (cs := #[.int .i64 a0_0, .int .i64 a0_1, .int .i64 a0_2, .slice A0_3 l0_3.length c0_3, .slice A0_4 l0_4.length c0_4]) (t := 43) ?hr ?_; (case hd => rfl); (case hg => rfl); (case hr => first | (go_simp; done) | (go_simp; rfl)); intro gb468 hg w19 hbox hb; have n0_ := Aside0.mk (below_step (bw HB.out) hb); have n1_ := Aside0.mk (hbox); have n2_ := ge_ hg HB.out; have n3_ := ge_ hg HB.out; replace HB := n0_; have BK468 := n1_; have GW468 := n2_; have GE468 := n3_; clear n0_ n1_ n2_ n3_; clear hb hbox hg; obtain ⟨hcz20_0, hcz20_1, hcz20_2, hcz20_3, hcz20_4, hfz20_0, hfz20_1, hfz20_2, hfz20_3, hfz20_4⟩ := bz5 BK468.out) | ((with_reducible refine gate_callee (f := 56) rfl ?_); refine goesL_ (some 5) rfl rfl Try.func56 (by kernel_rfl) rfl #[.int .i64 a0_0, .int .i64 1, .int .i64 4] rfl (by (try simp only [mA_]); first | done | rfl | (simp only [List.length_drop, List.length_take]; rfl)) ?_; (with_reducible refine (spec_l1In.calls a0_0 1 4 true _ A2.out).mono ?_); rintro e w' ⟨rfl, ⟨nd, rfl⟩⟩; refine ⟨_, rfl, ?_⟩) | (go_at_call 56; (with_reducible refine (spec_l1In.calls a0_1 1 4 true _ A4.out).mono ?_); rintro e w' ⟨rfl, ⟨nd, rfl⟩⟩) | (go_at_call 56; (with_reducible refine (spec_l1In.calls a0_2 0 1000 false _ A6.out).mono ?_); rintro e w' ⟨rfl, ⟨nd, rfl⟩⟩))
  go_ret
  exact ⟨by first | rfl | (simp [errW_none, errW_some] <;> rfl) | (simp [*, errW_none, errW_some] <;> rfl), by repeat (first | (with_reducible first | exact bw HB.out | refine bset ?_ | apply bA | apply bN | apply bD) | exact HB.out)⟩
 subst c7
 have H1 : ((spec_l2Good.f k l0_3).bind fun t472 => (if t472 = true then ((spec_l12Tasks.f k a0_0 a0_1 a0_2 l0_3 l0_4).bind fun t473 => (some t473)) else (some false))) = some r := by rw [if_pos rfl] at H; exact H
 clear H
 have H := H1
 clear H1
 replace H := Option.bind_eq_some_iff.mp H
 obtain ⟨t472, A80, H⟩ := H
 replace H : (if t472 = true then ((spec_l12Tasks.f k a0_0 a0_1 a0_2 l0_3 l0_4).bind fun t473 => (some t473)) else (some false)) = some r := H
 have A8 := Aside0.mk A80
 clear A80
 by_cases c9 : t472 = true
 rotate_left
 ·replace c9 := Bool.eq_false_iff.mpr c9
  subst c9
  have H1 : (some false) = some r := by rw [if_neg (show ¬ (false = true) by decide)] at H; exact H
  clear H
  have H := H1
  clear H1
  obtain rfl := Option.some.inj H
  go_enter Try.func73, Try.ntmps73
  go_wp2_with (first | ((with_reducible refine gate_dst (N := 1) rfl ?_); refine box_event ?hg (N := 1) ?hd (cs := #[.int .i64 a0_0, .int .i64 a0_1, .int .i64 a0_2, .slice A0_3 l0_3.length c0_3, .slice A0_4 l0_4.length c0_4]) (t := 43) ?hr ?_; (case hd => rfl); (case hg => rfl); (case hr => first | (go_simp; done) | (go_simp; rfl)); intro gb468 hg w16 hbox hb; have n0_ := Aside0.mk (below_step (bw HB.out) hb); have n1_ := Aside0.mk (hbox); have n2_ := ge_ hg HB.out; have n3_ := ge_ hg HB.out; replace HB := n0_; have BK468 := n1_; have GW468 := n2_; have GE468 := n3_; clear n0_ n1_ n2_ n3_; clear hb hbox hg; obtain ⟨hcz17_0, hcz17_1, hcz17_2, hcz17_3, hcz17_4, hfz17_0, hfz17_1, hfz17_2, hfz17_3, hfz17_4⟩ := bz5 BK468.out) | ((with_reducible refine gate_callee (f := 56) rfl ?_); refine goesL_ (some 5) rfl rfl Try.func56 (by kernel_rfl) rfl #[.int .i64 a0_0, .int .i64 1, .int .i64 4] rfl (by (try simp only [mA_]); first | done | rfl | (simp only [List.length_drop, List.length_take]; rfl)) ?_; (with_reducible refine (spec_l1In.calls a0_0 1 4 true _ A2.out).mono ?_); rintro e w' ⟨rfl, ⟨nd, rfl⟩⟩; refine ⟨_, rfl, ?_⟩) | (go_at_call 56; (with_reducible refine (spec_l1In.calls a0_1 1 4 true _ A4.out).mono ?_); rintro e w' ⟨rfl, ⟨nd, rfl⟩⟩) | (go_at_call 56; (with_reducible refine (spec_l1In.calls a0_2 0 1000 true _ A6.out).mono ?_); rintro e w' ⟨rfl, ⟨nd, rfl⟩⟩) | (go_at_call 54; (with_reducible refine (spec_l2Good.calls k _ _ l0_3 false _ ?side1 ?side2 A8.out).mono ?_); (case side1 => repeat (first | exact (Kd.C_below HR0_3.out (by repeat (first | (with_reducible first | exact bw HB.out | refine bset ?_ | apply bA | apply bN | apply bD) | exact HB.out))) | (with_reducible refine Kd.C_alloc ?_ _) | (with_reducible refine Kd.C_drewN ?_ _) | (with_reducible refine Kd.C_drew ?_))); (case side2 => exact HC0_3.out); rintro e w18 ⟨rfl, hb⟩; have n0_ := Aside0.mk (blk_below (bs BK468.out) hb); have n1_ := Aside0.mk (below_step (by repeat (first | (with_reducible first | exact bw HB.out | refine bset ?_ | apply bA | apply bN | apply bD) | exact HB.out)) hb); replace BK468 := n0_; replace HB := n1_; clear n0_ n1_; (try clear hb); (try clear hb2); (try clear hk); (try clear hi)))
  go_ret
  exact ⟨by first | rfl | (simp [errW_none, errW_some] <;> rfl) | (simp [*, errW_none, errW_some] <;> rfl), by repeat (first | (with_reducible first | exact bw HB.out | refine bset ?_ | apply bA | apply bN | apply bD) | exact HB.out)⟩
 subst c9
 have H1 : ((spec_l12Tasks.f k a0_0 a0_1 a0_2 l0_3 l0_4).bind fun t473 => (some t473)) = some r := by rw [if_pos rfl] at H; exact H
 clear H
 have H := H1
 clear H1
 replace H := Option.bind_eq_some_iff.mp H
 obtain ⟨t473, A100, H⟩ := H
 replace H : (some t473) = some r := H
 have A10 := Aside0.mk A100
 clear A100
 obtain rfl := Option.some.inj H
 go_enter Try.func73, Try.ntmps73
 go_wp2_with (first | ((with_reducible refine gate_dst (N := 1) rfl ?_); refine box_event ?hg (N := 1) ?hd (cs := #[.int .i64 a0_0, .int .i64 a0_1, .int .i64 a0_2, .slice A0_3 l0_3.length c0_3, .slice A0_4 l0_4.length c0_4]) (t := 43) ?hr ?_; (case hd => rfl); (case hg => rfl); (case hr => first | (go_simp; done) | (go_simp; rfl)); intro gb468 hg w11 hbox hb; have n0_ := Aside0.mk (below_step (bw HB.out) hb); have n1_ := Aside0.mk (hbox); have n2_ := ge_ hg HB.out; have n3_ := ge_ hg HB.out; replace HB := n0_; have BK468 := n1_; have GW468 := n2_; have GE468 := n3_; clear n0_ n1_ n2_ n3_; clear hb hbox hg; obtain ⟨hcz12_0, hcz12_1, hcz12_2, hcz12_3, hcz12_4, hfz12_0, hfz12_1, hfz12_2, hfz12_3, hfz12_4⟩ := bz5 BK468.out) | ((with_reducible refine gate_callee (f := 56) rfl ?_); refine goesL_ (some 5) rfl rfl Try.func56 (by kernel_rfl) rfl #[.int .i64 a0_0, .int .i64 1, .int .i64 4] rfl (by (try simp only [mA_]); first | done | rfl | (simp only [List.length_drop, List.length_take]; rfl)) ?_; (with_reducible refine (spec_l1In.calls a0_0 1 4 true _ A2.out).mono ?_); rintro e w' ⟨rfl, ⟨nd, rfl⟩⟩; refine ⟨_, rfl, ?_⟩) | (go_at_call 56; (with_reducible refine (spec_l1In.calls a0_1 1 4 true _ A4.out).mono ?_); rintro e w' ⟨rfl, ⟨nd, rfl⟩⟩) | (go_at_call 56; (with_reducible refine (spec_l1In.calls a0_2 0 1000 true _ A6.out).mono ?_); rintro e w' ⟨rfl, ⟨nd, rfl⟩⟩) | (go_at_call 54; (with_reducible refine (spec_l2Good.calls k _ _ l0_3 true _ ?side1 ?side2 A8.out).mono ?_); (case side1 => repeat (first | exact (Kd.C_below HR0_3.out (by repeat (first | (with_reducible first | exact bw HB.out | refine bset ?_ | apply bA | apply bN | apply bD) | exact HB.out))) | (with_reducible refine Kd.C_alloc ?_ _) | (with_reducible refine Kd.C_drewN ?_ _) | (with_reducible refine Kd.C_drew ?_))); (case side2 => exact HC0_3.out); rintro e w13 ⟨rfl, hb⟩; have n0_ := Aside0.mk (blk_below (bs BK468.out) hb); have n1_ := Aside0.mk (below_step (by repeat (first | (with_reducible first | exact bw HB.out | refine bset ?_ | apply bA | apply bN | apply bD) | exact HB.out)) hb); replace BK468 := n0_; replace HB := n1_; clear n0_ n1_; (try clear hb); (try clear hb2); (try clear hk); (try clear hi); obtain ⟨hcz14_0, hcz14_1, hcz14_2, hcz14_3, hcz14_4, hfz14_0, hfz14_1, hfz14_2, hfz14_3, hfz14_4⟩ := bz5 BK468.out) | (go_at_call 94; (with_reducible refine (spec_l12Tasks.calls k a0_0 a0_1 a0_2 _ _ l0_3 _ _ l0_4 t473 _ ?side1 ?side2 ?side3 ?side4 A10.out).mono ?_); (case side1 => first | exact bC HR0_3.out HB.out | exact Kd.C_below HR0_3.out HB.out); (case side2 => exact HC0_3.out); (case side3 => first | exact bC HR0_4.out HB.out | exact Kd.C_below HR0_4.out HB.out); (case side4 => exact HC0_4.out); rintro e w15 ⟨rfl, hb⟩; have n0_ := Aside0.mk (blk_below (bs BK468.out) hb); have n1_ := Aside0.mk (below_step (by repeat (first | (with_reducible first | exact bw HB.out | refine bset ?_ | apply bA | apply bN | apply bD) | exact HB.out)) hb); replace BK468 := n0_; replace HB := n1_; clear n0_ n1_; (try clear hb); (try clear hb2); (try clear hk); (try clear hi)))
 go_ret
 exact ⟨by first | rfl | (simp [errW_none, errW_some] <;> rfl) | (simp [*, errW_none, errW_some] <;> rfl), by repeat (first | (with_reducible first | exact bw HB.out | refine bset ?_ | apply bA | apply bN | apply bD) | exact HB.out)⟩

end Go.Proofs.Ytoagdnojoodloaa.X
