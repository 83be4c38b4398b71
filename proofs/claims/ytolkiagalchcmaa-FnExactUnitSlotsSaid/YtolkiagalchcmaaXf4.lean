-- Written by a program of this session (wip/gen/xp.py, over the kit's printer). Not trusted: Lean checks it.
import Derived.Test.YtolkiagalchcmaaX0
namespace Go.Proofs.Ytolkiagalchcmaa.X
open Go.RowKit Go.Proofs.YtolkiagalchcmaaW.PrintWords Go.Proofs.YtolkiagalchcmaaW.PrintLast Go.Proofs.YtolkiagalchcmaaW.PrintMore
attribute [local go_sem] max2_int min2_int max_two min_two max_three min_three max_four min_four   -- for this text's walks alone
set_option linter.unusedVariables false
set_option linter.unusedSimpArgs false

/-! ### laws_szJobS: function 4 -/
def laws_szJobS.f (l0 : List (S40)) (a1 : Int) : Option (Int) := if (wrap64 (a1 - (l0.length : Int))) < 0 then (some (-1)) else (some (wrap64 (a1 - (l0.length : Int))))
set_option maxHeartbeats 8000000 in
set_option maxRecDepth 100000 in
theorem laws_szJobS.calls (A0 : Option Addr) (c0 : Nat) (l0 : List (S40)) (a1 : Int) (r : Int) (w : World) (hr0 : Kd.C k40 w A0 l0.length l0) (hc0 : l0.length ≤ c0) (h : laws_szJobS.f l0 a1 = some r) :
  Calls Try.prog 4 #[.slice A0 l0.length c0, .int .i64 a1] w fun e w' => e = .returned (.int .i64 r) ∧ Drawn0 w w' := by
 have HR0 := Aside0.mk hr0
 have HC0 := Aside0.mk hc0
 clear hr0 hc0
 have H : (if (wrap64 (a1 - (l0.length : Int))) < 0 then (some (-1)) else (some (wrap64 (a1 - (l0.length : Int))))) = some r := h
 clear h
 by_cases c3 : (wrap64 (a1 - (l0.length : Int))) < 0
 ·rw [if_pos c3] at H
  have c3b0 : decide ((wrap64 (a1 - (l0.length : Int))) < 0) = true := decide_eq_true c3
  clear c3
  obtain rfl := Option.some.inj H
  go_enter Try.func4, Try.ntmps4
  go_wp2
  go_ret
  exact ⟨by first | rfl | (simp; done) | (simp [*]; done), by repeat (first | exact Drawn0.refl _ | apply Drawn0.step)⟩
 rw [if_neg c3] at H
 have c3b0 : decide ((wrap64 (a1 - (l0.length : Int))) < 0) = false := decide_eq_false c3
 clear c3
 obtain rfl := Option.some.inj H
 go_enter Try.func4, Try.ntmps4
 go_wp2
 go_ret
 exact ⟨by first | rfl | (simp; done) | (simp [*]; done), by repeat (first | exact Drawn0.refl _ | apply Drawn0.step)⟩

/-! ### spec_l1In: function 39 -/
def spec_l1In.f (a0 : Int) (a1 : Int) (a2 : Int) : Option (Bool) := if a0 ≥ a1 then (some (decide (a0 ≤ a2))) else (some false)
set_option maxHeartbeats 8000000 in
set_option maxRecDepth 100000 in
theorem spec_l1In.calls (a0 : Int) (a1 : Int) (a2 : Int) (r : Bool) (w : World) (h : spec_l1In.f a0 a1 a2 = some r) :
  Calls Try.prog 39 #[.int .i64 a0, .int .i64 a1, .int .i64 a2] w fun e w' => e = .returned (.bool r) ∧ Drawn0 w w' := by
 have H : (if a0 ≥ a1 then (some (decide (a0 ≤ a2))) else (some false)) = some r := h
 clear h
 by_cases c4 : a0 ≥ a1
 ·rw [if_pos c4] at H
  have c4b0 : decide (a1 ≤ a0) = true := decide_eq_true c4
  clear c4
  obtain rfl := Option.some.inj H
  go_enter Try.func39, Try.ntmps39
  go_wp2
  go_ret
  exact ⟨by first | rfl | (simp; done) | (simp [*]; done), by repeat (first | exact Drawn0.refl _ | apply Drawn0.step)⟩
 rw [if_neg c4] at H
 have c4b0 : decide (a1 ≤ a0) = false := decide_eq_false c4
 clear c4
 obtain rfl := Option.some.inj H
 go_enter Try.func39, Try.ntmps39
 go_wp2
 go_ret
 exact ⟨by first | rfl | (simp; done) | (simp [*]; done), by repeat (first | exact Drawn0.refl _ | apply Drawn0.step)⟩

/-! ### spec_l2Job: function 43 -/
def spec_l2Job.f (a0_0 : Int) (a0_1 : Int) (a0_2 : Int) (a0_3 : Int) : Option (Bool) := (spec_l1In.f a0_0 1 50).bind fun t102 => (if t102 = true then ((spec_l1In.f a0_1 0 50).bind fun t103 => (if t103 = true then ((spec_l1In.f a0_2 0 500).bind fun t104 => (if t104 = true then ((spec_l1In.f a0_3 0 500).bind fun t105 => (some t105)) else (some false))) else (some false))) else (some false))
set_option maxHeartbeats 8000000 in
set_option maxRecDepth 100000 in
theorem spec_l2Job.calls (a0_0 : Int) (a0_1 : Int) (a0_2 : Int) (a0_3 : Int) (r : Bool) (w : World) (h : spec_l2Job.f a0_0 a0_1 a0_2 a0_3 = some r) :
  Calls Try.prog 43 #[.agg #[.int .i64 a0_0, .int .i64 a0_1, .int .i64 a0_2, .int .i64 a0_3]] w fun e w' => e = .returned (.bool r) ∧ Below w.heap.size w w' := by
 have hu37 := Try.underlying37
 have HB := Aside0.mk (Below.refl w.heap.size w)
 have H : ((spec_l1In.f a0_0 1 50).bind fun t102 => (if t102 = true then ((spec_l1In.f a0_1 0 50).bind fun t103 => (if t103 = true then ((spec_l1In.f a0_2 0 500).bind fun t104 => (if t104 = true then ((spec_l1In.f a0_3 0 500).bind fun t105 => (some t105)) else (some false))) else (some false))) else (some false))) = some r := h
 clear h
 replace H := Option.bind_eq_some_iff.mp H
 obtain ⟨t102, A20, H⟩ := H
 replace H : (if t102 = true then ((spec_l1In.f a0_1 0 50).bind fun t103 => (if t103 = true then ((spec_l1In.f a0_2 0 500).bind fun t104 => (if t104 = true then ((spec_l1In.f a0_3 0 500).bind fun t105 => (some t105)) else (some false))) else (some false))) else (some false)) = some r := H
 have A2 := Aside0.mk A20
 clear A20
 by_cases c3 : t102 = true
 rotate_left
 ·replace c3 := Bool.eq_false_iff.mpr c3
  subst c3
  have H1 : (some false) = some r := by rw [if_neg (show ¬ (false = true) by decide)] at H; exact H
  clear H
  have H := H1
  clear H1
  obtain rfl := Option.some.inj H
  go_enter Try.func43, Try.ntmps43
  go_wp2_with (first | ((with_reducible refine gate_dst (N := 1) rfl ?_); refine box_event ?hg (N := 1) ?hd (cs := #[.int .i64 a0_0, .int .i64 a0_1, .int .i64 a0_2, .int .i64 a0_3]) (t := 37) ?hr ?_; (case hd => rfl); (case hg => rfl); (case hr => first | (go_simp; done) | (go_simp; rfl)); intro gb101 hg w15 hbox hb; have n0_ := Aside0.mk (below_step (bw HB.out) hb); have n1_ := Aside0.mk (hbox); have n2_ := ge_ hg HB.out; have n3_ := ge_ hg HB.out; replace HB := n0_; have BK101 := n1_; have GW101 := n2_; have GE101 := n3_; clear n0_ n1_ n2_ n3_; clear hb hbox hg; obtain ⟨hcz16_0, hcz16_1, hcz16_2, hcz16_3, hfz16_0, hfz16_1, hfz16_2, hfz16_3⟩ := bz4 BK101.out) | ((with_reducible refine gate_callee (f := 39) rfl ?_); refine goesL_ (some 5) rfl rfl Try.func39 (by kernel_rfl) rfl #[.int .i64 a0_0, .int .i64 1, .int .i64 50] rfl (by (try simp only [mA_]); first | done | rfl | (simp only [List.length_drop, List.length_take]; rfl)) ?_; (with_reducible refine (spec_l1In.calls a0_0 1 50 false _ A2.out).mono ?_); rintro e w' ⟨rfl, ⟨nd, rfl⟩⟩; refine ⟨_, rfl, ?_⟩))
  go_ret
  exact ⟨by first | rfl | (simp [errW_none, errW_some] <;> rfl) | (simp [*, errW_none, errW_some] <;> rfl), by repeat (first | (with_reducible first | exact bw HB.out | refine bset ?_ | apply bA | apply bN | apply bD) | exact HB.out)⟩
 subst c3
 have H1 : ((spec_l1In.f a0_1 0 50).bind fun t103 => (if t103 = true then ((spec_l1In.f a0_2 0 500).bind fun t104 => (if t104 = true then ((spec_l1In.f a0_3 0 500).bind fun t105 => (some t105)) else (some false))) else (some false))) = some r := by rw [if_pos rfl] at H; exact H
 clear H
 have H := H1
 clear H1
 replace H := Option.bind_eq_some_iff.mp H
 obtain ⟨t103, A40, H⟩ := H
 replace H : (if t103 = true then ((spec_l1In.f a0_2 0 500).bind fun t104 => (if t104 = true then ((spec_l1In.f a0_3 0 500).bind fun t105 => (some t105)) else (some false))) else (some false)) = some r := H
 have A4 := Aside0.mk A40
 clear A40
 by_cases c5 : t103 = true
 rotate_left
 ·replace c5 := Bool.eq_false_iff.mpr c5
  subst c5
  have H1 : (some false) = some r := by rw [if_neg (show ¬ (false = true) by decide)] at H; exact H
  clear H
  have H := H1
  clear H1
  obtain rfl := Option.some.inj H
  go_enter Try.func43, Try.ntmps43
  go_wp2_with (first | ((with_reducible refine gate_dst (N := 1) rfl ?_); refine box_event ?hg (N := 1) ?hd (cs := #[.int .i64 a0_0, .int .i64 a0_1, .int .i64 a0_2, .int .i64 a0_3]) (t := 37) ?hr ?_; (case hd => rfl); (case hg => rfl); (case hr => first | (go_simp; done) | (go_simp; rfl)); intro gb101 hg w13 hbox hb; have n0_ := Aside0.mk (below_step (bw HB.out) hb); have n1_ := Aside0.mk (hbox); have n2_ := ge_ hg HB.out; have n3_ := ge_ hg HB.out; replace HB := n0_; have BK101 := n1_; have GW101 := n2_; have GE101 := n3_; clear n0_ n1_ n2_ n3_; clear hb hbox hg; obtain ⟨hcz14_0, hcz14_1, hcz14_2, hcz14_3, hfz14_0, hfz14_1, hfz14_2, hfz14_3⟩ := bz4 BK101.out) | ((with_reducible refine gate_callee (f := 39) rfl ?_); refine goesL_ (some 5) rfl rfl Try.func39 (by kernel_rfl) rfl #[.int .i64 a0_0, .int .i64 1, .int .i64 50] rfl (by (try simp only [mA_]); first | done | rfl | (simp only [List.length_drop, List.length_take]; rfl)) ?_; (with_reducible refine (spec_l1In.calls a0_0 1 50 true _ A2.out).mono ?_); rintro e w' ⟨rfl, ⟨nd, rfl⟩⟩; refine ⟨_, rfl, ?_⟩) | (go_at_call 39; (with_reducible refine (spec_l1In.calls a0_1 0 50 false _ A4.out).mono ?_); rintro e w' ⟨rfl, ⟨nd, rfl⟩⟩))
  go_ret
  exact ⟨by first | rfl | (simp [errW_none, errW_some] <;> rfl) | (simp [*, errW_none, errW_some] <;> rfl), by repeat (first | (with_reducible first | exact bw HB.out | refine bset ?_ | apply bA | apply bN | apply bD) | exact HB.out)⟩
 subst c5
 have H1 : ((spec_l1In.f a0_2 0 500).bind fun t104 => (if t104 = true then ((spec_l1In.f a0_3 0 500).bind fun t105 => (some t105)) else (some false))) = some r := by rw [if_pos rfl] at H; exact H
 clear H
 have H := H1
 clear H1
 replace H := Option.bind_eq_some_iff.mp H
 obtain ⟨t104, A60, H⟩ := H
 replace H : (if t104 = true then ((spec_l1In.f a0_3 0 500).bind fun t105 => (some t105)) else (some false)) = some r := H
 have A6 := Aside0.mk A60
 clear A60
 by_cases c7 : t104 = true
 rotate_left
 ·replace c7 := Bool.eq_false_iff.mpr c7
  subst c7
  have H1 : (some false) = some r := by rw [if_neg (show ¬ (false = true) by decide)] at H; exact H
  clear H
  have H := H1
  clear H1
  obtain rfl := Option.some.inj H
  go_enter Try.func43, Try.ntmps43
  go_wp2_with (first | ((with_reducible refine gate_dst (N := 1) rfl ?_); refine box_event ?hg (N := 1) ?hd (cs := #[.int .i64 a0_0, .int .i64 a0_1, .int .i64 a0_2, .int .i64 a0_3]) (t := 37) ?hr ?_; (case hd => rfl); (case hg => rfl); (case hr => first | (go_simp; done) | (go_simp; rfl)); intro gb101 hg w11 hbox hb; have n0_ := Aside0.mk (below_step (bw HB.out) hb); have n1_ := Aside0.mk (hbox); have n2_ := ge_ hg HB.out; have n3_ := ge_ hg HB.out; replace HB := n0_; have BK101 := n1_; have GW101 := n2_; have GE101 := n3_; clear n0_ n1_ n2_ n3_; clear hb hbox hg; obtain ⟨hcz12_0, hcz12_1, hcz12_2, hcz12_3, hfz12_0, hfz12_1, hfz12_2, hfz12_3⟩ := bz4 BK101.out) | ((with_reducible refine gate_callee (f := 39) rfl ?_); refine goesL_ (some 5) rfl rfl Try.func39 (by kernel_rfl) rfl #[.int .i64 a0_0, .int .i64 1, .int .i64 50] rfl (by (try simp only [mA_]); first | done | rfl | (simp only [List.length_drop, List.length_take]; rfl)) ?_; (with_reducible refine (spec_l1In.calls a0_0 1 50 true _ A2.out).mono ?_); rintro e w' ⟨rfl, ⟨nd, rfl⟩⟩; refine ⟨_, rfl, ?_⟩) | (go_at_call 39; (with_reducible refine (spec_l1In.calls a0_1 0 50 true _ A4.out).mono ?_); rintro e w' ⟨rfl, ⟨nd, rfl⟩⟩) | (go_at_call 39; (with_reducible refine (spec_l1In.calls a0_2 0 500 false _ A6.out).mono ?_); rintro e w' ⟨rfl, ⟨nd, rfl⟩⟩))
  go_ret
  exact ⟨by first | rfl | (simp [errW_none, errW_some] <;> rfl) | (simp [*, errW_none, errW_some] <;> rfl), by repeat (first | (with_reducible first | exact bw HB.out | refine bset ?_ | apply bA | apply bN | apply bD) | exact HB.out)⟩
 subst c7
 have H1 : ((spec_l1In.f a0_3 0 500).bind fun t105 => (some t105)) = some r := by rw [if_pos rfl] at H; exact H
 clear H
 have H := H1
 clear H1
 replace H := Option.bind_eq_some_iff.mp H
 obtain ⟨t105, A80, H⟩ := H
 replace H : (some t105) = some r := H
 have A8 := Aside0.mk A80
 clear A80
 obtain rfl := Option.some.inj H
 go_enter Try.func43, Try.ntmps43
 go_wp2_with (first | ((with_reducible refine gate_dst (N := 1) rfl ?_); refine box_event ?hg (N := 1) ?hd (cs := #[.int .i64 a0_0, .int .i64 a0_1, .int .i64 a0_2, .int .i64 a0_3]) (t := 37) ?hr ?_; (case hd => rfl); (case hg => rfl); (case hr => first | (go_simp; done) | (go_simp; rfl)); intro gb101 hg w9 hbox hb; have n0_ := Aside0.mk (below_step (bw HB.out) hb); have n1_ := Aside0.mk (hbox); have n2_ := ge_ hg HB.out; have n3_ := ge_ hg HB.out; replace HB := n0_; have BK101 := n1_; have GW101 := n2_; have GE101 := n3_; clear n0_ n1_ n2_ n3_; clear hb hbox hg; obtain ⟨hcz10_0, hcz10_1, hcz10_2, hcz10_3, hfz10_0, hfz10_1, hfz10_2, hfz10_3⟩ := bz4 BK101.out) | ((with_reducible refine gate_callee (f := 39) rfl ?_); refine goesL_ (some 5) rfl rfl Try.func39 (by kernel_rfl) rfl #[.int .i64 a0_0, .int .i64 1, .int .i64 50] rfl (by (try simp only [mA_]); first | done | rfl | (simp only [List.length_drop, List.length_take]; rfl)) ?_; (with_reducible refine (spec_l1In.calls a0_0 1 50 true _ A2.out).mono ?_); rintro e w' ⟨rfl, ⟨nd, rfl⟩⟩; refine ⟨_, rfl, ?_⟩) | (go_at_call 39; (with_reducible refine (spec_l1In.calls a0_1 0 50 true _ A4.out).mono ?_); rintro e w' ⟨rfl, ⟨nd, rfl⟩⟩) | (go_at_call 39; (with_reducible refine (spec_l1In.calls a0_2 0 500 true _ A6.out).mono ?_); rintro e w' ⟨rfl, ⟨nd, rfl⟩⟩) | (go_at_call 39; (with_reducible refine (spec_l1In.calls a0_3 0 500 t105 _ A8.out).mono ?_); rintro e w' ⟨rfl, ⟨nd, rfl⟩⟩))
 go_ret
 exact ⟨by first | rfl | (simp [errW_none, errW_some] <;> rfl) | (simp [*, errW_none, errW_some] <;> rfl), by repeat (first | (with_reducible first | exact bw HB.out | refine bset ?_ | apply bA | apply bN | apply bD) | exact HB.out)⟩

/-! ### spec_l2Good: function 37 -/
def spec_l2Good.l0 : Nat → List (S37) → Int → Option (Bool)
 | 0, _, _ => none
 | k + 1, x0, x3 => if x3 < (x0.length : Int) then (if 0 ≤ x3 then ((spec_l2Job.f ((rd_T37 x0 x3).f0) ((rd_T37 x0 x3).f1) ((rd_T37 x0 x3).f2) ((rd_T37 x0 x3).f3)).bind fun t107 => (if t107 = true then (spec_l2Good.l0 k x0 (wrap64 (x3 + 1))) else (some false))) else (none)) else (some (decide ((x0.length : Int) ≤ 8)))
def spec_l2Good.f (k : Nat) (l0 : List (S37)) : Option (Bool) := spec_l2Good.l0 k l0 0
theorem spec_l2Good.mono_l : ∀ k, (∀ y0 y1, LeO (spec_l2Good.l0 k y0 y1) (spec_l2Good.l0 (k + 1) y0 y1))
 | 0 => fun _ _ r h => by simp [spec_l2Good.l0] at h
 | k + 1 => by
  have ih0 := spec_l2Good.mono_l k
  ·intro y0 y1
   unfold spec_l2Good.l0
   repeat' first
   | (with_reducible exact ih0 _ _)
   | (with_reducible exact LeO.refl _)
   | (with_reducible exact LeO.none _)
   | (with_reducible refine LeO.ite ?_ ?_)
   | (with_reducible refine LeO.bind ?_ (fun _ => ?_))
   | exact ih0 _ _
   | exact LeO.none _
   | refine LeO.ite ?_ ?_
   | refine LeO.bind ?_ (fun _ => ?_)
theorem spec_l2Good.mono : ∀ a0 k, LeO (spec_l2Good.f k a0) (spec_l2Good.f (k + 1) a0) := by
 intro a0 k
 have ih0 := spec_l2Good.mono_l k
 unfold spec_l2Good.f
 repeat' first
   | (with_reducible exact ih0 _ _)
   | (with_reducible exact LeO.refl _)
   | (with_reducible exact LeO.none _)
   | (with_reducible refine LeO.ite ?_ ?_)
   | (with_reducible refine LeO.bind ?_ (fun _ => ?_))
   | exact ih0 _ _
   | exact LeO.none _
   | refine LeO.ite ?_ ?_
   | refine LeO.bind ?_ (fun _ => ?_)
set_option maxHeartbeats 8000000 in
set_option maxRecDepth 100000 in
theorem spec_l2Good.calls (k : Nat) (A0 : Option Addr) (c0 : Nat) (l0 : List (S37)) (r : Bool) (w : World) (hr0 : Kd.C k37 w A0 l0.length l0) (hc0 : l0.length ≤ c0) (h : spec_l2Good.f k l0 = some r) :
  Calls Try.prog 37 #[.slice A0 l0.length c0] w fun e w' => e = .returned (.bool r) ∧ Below w.heap.size w w' := by
 have hu37 := Try.underlying37
 have HR0 := Aside0.mk hr0
 have HC0 := Aside0.mk hc0
 clear hr0 hc0
 have HB := Aside0.mk (Below.refl w.heap.size w)
 have H : (spec_l2Good.l0 k l0 0) = some r := h
 clear h
 have H' := Aside0.mk H
 clear H
 go_enter Try.func37, Try.ntmps37
 go_wp2
 go_loopg [3] k (fun kq v3 w' => ∃ (x3_1 : Int), v3 = .int .i64 x3_1 ∧ Aside0 (spec_l2Good.l0 kq l0 x3_1 = some r) ∧ Aside0 (kq ≤ k) ∧ Aside0 (Below w.heap.size w w'))
 case atStart => exact ⟨(0), (by first | rfl | (simp; done) | (simp [*]; done)), H', ⟨Nat.le_refl _⟩, ⟨bw HB.out⟩⟩
 case round =>
  clear H'
  obtain ⟨x3_1, rfl, HA, HK1, HB⟩ := hrel
  cases gk with
  | zero => exact absurd HA.out (by simp [spec_l2Good.l0])
  | succ k1 =>
   have H := HA.out
   clear HA
   simp only [spec_l2Good.l0] at H
   by_cases c2 : x3_1 < (l0.length : Int)
   rotate_left
   ·rw [if_neg c2] at H
    have c2b0 : decide (x3_1 < (l0.length : Int)) = false := decide_eq_false c2
    clear c2
    obtain rfl := Option.some.inj H
    go_wp2
    go_ret
    exact ⟨by first | rfl | (simp [errW_none, errW_some] <;> rfl) | (simp [*, errW_none, errW_some] <;> rfl), bw HB.out⟩
   rw [if_pos c2] at H
   have c2b0 : decide (x3_1 < (l0.length : Int)) = true := decide_eq_true c2
   clear c2
   by_cases c3 : 0 ≤ x3_1
   rotate_left
   ·rw [if_neg c3] at H
    exact absurd H (by simp)
   rw [if_pos c3] at H
   have c3b0 : decide (0 ≤ x3_1) = true := decide_eq_true c3
   clear c3
   replace H := Option.bind_eq_some_iff.mp H
   obtain ⟨t107, A40, H⟩ := H
   replace H : (if t107 = true then (spec_l2Good.l0 k1 l0 (wrap64 (x3_1 + 1))) else (some false)) = some r := H
   have A4 := Aside0.mk A40
   clear A40
   by_cases c5 : t107 = true
   rotate_left
   ·replace c5 := Bool.eq_false_iff.mpr c5
    subst c5
    have H1 : (some false) = some r := by rw [if_neg (show ¬ (false = true) by decide)] at H; exact H
    clear H
    have H := H1
    clear H1
    obtain rfl := Option.some.inj H
    have p106 : 0 ≤ (x3_1 : Int) := of_decide_eq_true (by first | (with_reducible assumption) | assumption)
    have q106 : x3_1 < (l0.length : Int) := of_decide_eq_true (by first | (with_reducible assumption) | assumption)
    obtain ⟨ad106, e106, hx106_0, hx106_1, hx106_2, hx106_3⟩ := at_T37 HR0.out x3_1 p106 q106
    cases e106
    replace hx106_0 := (HB.out.cell (World.block_lt_of_cell? w _ hx106_0)).trans hx106_0
    replace hx106_1 := (HB.out.cell (World.block_lt_of_cell? w _ hx106_1)).trans hx106_1
    replace hx106_2 := (HB.out.cell (World.block_lt_of_cell? w _ hx106_2)).trans hx106_2
    replace hx106_3 := (HB.out.cell (World.block_lt_of_cell? w _ hx106_3)).trans hx106_3
    replace p106 := eq_true p106
    replace q106 := eq_true q106
    go_wp2_with (first | ((with_reducible refine gate_callee (f := 43) rfl ?_); refine goesL_ (some 14) rfl rfl Try.func43 (by kernel_rfl) rfl #[.agg #[.int .i64 ((rd_T37 l0 x3_1).f0), .int .i64 ((rd_T37 l0 x3_1).f1), .int .i64 ((rd_T37 l0 x3_1).f2), .int .i64 ((rd_T37 l0 x3_1).f3)]] rfl (by (try simp only [mA_]); first | done | rfl | (simp only [List.length_drop, List.length_take]; rfl)) ?_; (with_reducible refine (spec_l2Job.calls ((rd_T37 l0 x3_1).f0) ((rd_T37 l0 x3_1).f1) ((rd_T37 l0 x3_1).f2) ((rd_T37 l0 x3_1).f3) false _ A4.out).mono ?_); rintro e w7 ⟨rfl, hb⟩; refine ⟨_, rfl, ?_⟩; have n0_ := Aside0.mk (below_step (bw HB.out) hb); replace HB := n0_; clear n0_; (try clear hb); (try clear hb2); (try clear hk); (try clear hi)))
    go_ret
    exact ⟨by first | rfl | (simp [errW_none, errW_some] <;> rfl) | (simp [*, errW_none, errW_some] <;> rfl), bw HB.out⟩
   subst c5
   have H1 : (spec_l2Good.l0 k1 l0 (wrap64 (x3_1 + 1))) = some r := by rw [if_pos rfl] at H; exact H
   clear H
   have H := H1
   clear H1
   have H' := Aside0.mk H
   clear H
   have p106 : 0 ≤ (x3_1 : Int) := of_decide_eq_true (by first | (with_reducible assumption) | assumption)
   have q106 : x3_1 < (l0.length : Int) := of_decide_eq_true (by first | (with_reducible assumption) | assumption)
   obtain ⟨ad106, e106, hx106_0, hx106_1, hx106_2, hx106_3⟩ := at_T37 HR0.out x3_1 p106 q106
   cases e106
   replace hx106_0 := (HB.out.cell (World.block_lt_of_cell? w _ hx106_0)).trans hx106_0
   replace hx106_1 := (HB.out.cell (World.block_lt_of_cell? w _ hx106_1)).trans hx106_1
   replace hx106_2 := (HB.out.cell (World.block_lt_of_cell? w _ hx106_2)).trans hx106_2
   replace hx106_3 := (HB.out.cell (World.block_lt_of_cell? w _ hx106_3)).trans hx106_3
   replace p106 := eq_true p106
   replace q106 := eq_true q106
   go_wp2_with (first | ((with_reducible refine gate_callee (f := 43) rfl ?_); refine goesL_ (some 14) rfl rfl Try.func43 (by kernel_rfl) rfl #[.agg #[.int .i64 ((rd_T37 l0 x3_1).f0), .int .i64 ((rd_T37 l0 x3_1).f1), .int .i64 ((rd_T37 l0 x3_1).f2), .int .i64 ((rd_T37 l0 x3_1).f3)]] rfl (by (try simp only [mA_]); first | done | rfl | (simp only [List.length_drop, List.length_take]; rfl)) ?_; (with_reducible refine (spec_l2Job.calls ((rd_T37 l0 x3_1).f0) ((rd_T37 l0 x3_1).f1) ((rd_T37 l0 x3_1).f2) ((rd_T37 l0 x3_1).f3) true _ A4.out).mono ?_); rintro e w6 ⟨rfl, hb⟩; refine ⟨_, rfl, ?_⟩; have n0_ := Aside0.mk (below_step (bw HB.out) hb); replace HB := n0_; clear n0_; (try clear hb); (try clear hb2); (try clear hk); (try clear hi)))
   go_roundg k1
   case measure => have := HK1.out; omega
   case rel => exact ⟨(wrap64 (x3_1 + 1)), (by first | rfl | (simp; done) | (simp [*]; done)), H', ⟨by have := HK1.out; omega⟩, ⟨bw HB.out⟩⟩

/-! ### spec_l4Free: function 38 -/
def spec_l4Free.l0 : Nat → List (S37) → Int → Option (Bool)
 | 0, _, _ => none
 | k + 1, x0, x3 => if x3 < (x0.length : Int) then (if 0 ≤ x3 then (if ((rd_T37 x0 x3).f2) > 0 then (some false) else (spec_l4Free.l0 k x0 (wrap64 (x3 + 1)))) else (none)) else (some true)
def spec_l4Free.f (k : Nat) (l0 : List (S37)) : Option (Bool) := spec_l4Free.l0 k l0 0
theorem spec_l4Free.mono_l : ∀ k, (∀ y0 y1, LeO (spec_l4Free.l0 k y0 y1) (spec_l4Free.l0 (k + 1) y0 y1))
 | 0 => fun _ _ r h => by simp [spec_l4Free.l0] at h
 | k + 1 => by
  have ih0 := spec_l4Free.mono_l k
  ·intro y0 y1
   unfold spec_l4Free.l0
   repeat' first
   | (with_reducible exact ih0 _ _)
   | (with_reducible exact LeO.refl _)
   | (with_reducible exact LeO.none _)
   | (with_reducible refine LeO.ite ?_ ?_)
   | (with_reducible refine LeO.bind ?_ (fun _ => ?_))
   | exact ih0 _ _
   | exact LeO.none _
   | refine LeO.ite ?_ ?_
   | refine LeO.bind ?_ (fun _ => ?_)
theorem spec_l4Free.mono : ∀ a0 k, LeO (spec_l4Free.f k a0) (spec_l4Free.f (k + 1) a0) := by
 intro a0 k
 have ih0 := spec_l4Free.mono_l k
 unfold spec_l4Free.f
 repeat' first
   | (with_reducible exact ih0 _ _)
   | (with_reducible exact LeO.refl _)
   | (with_reducible exact LeO.none _)
   | (with_reducible refine LeO.ite ?_ ?_)
   | (with_reducible refine LeO.bind ?_ (fun _ => ?_))
   | exact ih0 _ _
   | exact LeO.none _
   | refine LeO.ite ?_ ?_
   | refine LeO.bind ?_ (fun _ => ?_)
set_option maxHeartbeats 8000000 in
set_option maxRecDepth 100000 in
theorem spec_l4Free.calls (k : Nat) (A0 : Option Addr) (c0 : Nat) (l0 : List (S37)) (r : Bool) (w : World) (hr0 : Kd.C k37 w A0 l0.length l0) (hc0 : l0.length ≤ c0) (h : spec_l4Free.f k l0 = some r) :
  Calls Try.prog 38 #[.slice A0 l0.length c0] w fun e w' => e = .returned (.bool r) ∧ Drawn0 w w' := by
 have HR0 := Aside0.mk hr0
 have HC0 := Aside0.mk hc0
 clear hr0 hc0
 have H : (spec_l4Free.l0 k l0 0) = some r := h
 clear h
 have H' := Aside0.mk H
 clear H
 go_enter Try.func38, Try.ntmps38
 go_wp2
 go_loopg [3] k (fun kq v3 w' => ∃ (x3_1 : Int), v3 = .int .i64 x3_1 ∧ Aside0 (spec_l4Free.l0 kq l0 x3_1 = some r) ∧ Aside0 (kq ≤ k) ∧ Drawn0 w w')
 case atStart => exact ⟨(0), (by first | rfl | (simp; done) | (simp [*]; done)), H', ⟨Nat.le_refl _⟩, by repeat (first | exact Drawn0.refl _ | apply Drawn0.step)⟩
 case round =>
  clear H'
  obtain ⟨x3_1, rfl, HA, HK1, ⟨m1, rfl⟩⟩ := hrel
  cases gk with
  | zero => exact absurd HA.out (by simp [spec_l4Free.l0])
  | succ k1 =>
   have H := HA.out
   clear HA
   simp only [spec_l4Free.l0] at H
   by_cases c2 : x3_1 < (l0.length : Int)
   rotate_left
   ·rw [if_neg c2] at H
    have c2b0 : decide (x3_1 < (l0.length : Int)) = false := decide_eq_false c2
    clear c2
    obtain rfl := Option.some.inj H
    go_wp2
    go_ret
    exact ⟨by first | rfl | (simp; done) | (simp [*]; done), by repeat (first | exact Drawn0.refl _ | apply Drawn0.step)⟩
   rw [if_pos c2] at H
   have c2b0 : decide (x3_1 < (l0.length : Int)) = true := decide_eq_true c2
   clear c2
   by_cases c3 : 0 ≤ x3_1
   rotate_left
   ·rw [if_neg c3] at H
    exact absurd H (by simp)
   rw [if_pos c3] at H
   have c3b0 : decide (0 ≤ x3_1) = true := decide_eq_true c3
   clear c3
   by_cases c4 : ((rd_T37 l0 x3_1).f2) > 0
   ·rw [if_pos c4] at H
    have c4b0 : decide (0 < ((rd_T37 l0 x3_1).f2)) = true := decide_eq_true c4
    clear c4
    obtain rfl := Option.some.inj H
    have p108 : 0 ≤ (x3_1 : Int) := of_decide_eq_true (by first | (with_reducible assumption) | assumption)
    have q108 : x3_1 < (l0.length : Int) := of_decide_eq_true (by first | (with_reducible assumption) | assumption)
    obtain ⟨ad108, e108, hx108_0, hx108_1, hx108_2, hx108_3⟩ := at_T37 HR0.out x3_1 p108 q108
    cases e108
    replace p108 := eq_true p108
    replace q108 := eq_true q108
    go_wp2
    go_ret
    exact ⟨by first | rfl | (simp; done) | (simp [*]; done), by repeat (first | exact Drawn0.refl _ | apply Drawn0.step)⟩
   rw [if_neg c4] at H
   have c4b0 : decide (0 < ((rd_T37 l0 x3_1).f2)) = false := decide_eq_false c4
   clear c4
   have H' := Aside0.mk H
   clear H
   have p108 : 0 ≤ (x3_1 : Int) := of_decide_eq_true (by first | (with_reducible assumption) | assumption)
   have q108 : x3_1 < (l0.length : Int) := of_decide_eq_true (by first | (with_reducible assumption) | assumption)
   obtain ⟨ad108, e108, hx108_0, hx108_1, hx108_2, hx108_3⟩ := at_T37 HR0.out x3_1 p108 q108
   cases e108
   replace p108 := eq_true p108
   replace q108 := eq_true q108
   go_wp2
   go_roundg k1
   case measure => have := HK1.out; omega
   case rel => exact ⟨(wrap64 (x3_1 + 1)), (by first | rfl | (simp; done) | (simp [*]; done)), H', ⟨by have := HK1.out; omega⟩, by repeat (first | exact Drawn0.refl _ | apply Drawn0.step)⟩

/-! ### spec_l6Good: function 31 -/
def spec_l6Good.f (k : Nat) (l0 : List (S37)) : Option (Bool) := (spec_l2Good.f k l0).bind fun t109 => (if t109 = true then ((spec_l4Free.f k l0).bind fun t110 => (some t110)) else (some false))
theorem spec_l6Good.mono : ∀ a0 k, LeO (spec_l6Good.f k a0) (spec_l6Good.f (k + 1) a0) := by
 intro a0 k
 unfold spec_l6Good.f
 repeat' first
   | (with_reducible exact spec_l2Good.mono _ _)
   | (with_reducible exact spec_l4Free.mono _ _)
   | (with_reducible exact LeO.refl _)
   | (with_reducible exact LeO.none _)
   | (with_reducible refine LeO.ite ?_ ?_)
   | (with_reducible refine LeO.bind ?_ (fun _ => ?_))
   | exact spec_l2Good.mono _ _
   | exact spec_l4Free.mono _ _
   | exact LeO.none _
   | refine LeO.ite ?_ ?_
   | refine LeO.bind ?_ (fun _ => ?_)
set_option maxHeartbeats 8000000 in
set_option maxRecDepth 100000 in
theorem spec_l6Good.calls (k : Nat) (A0 : Option Addr) (c0 : Nat) (l0 : List (S37)) (r : Bool) (w : World) (hr0 : Kd.C k37 w A0 l0.length l0) (hc0 : l0.length ≤ c0) (h : spec_l6Good.f k l0 = some r) :
  Calls Try.prog 31 #[.slice A0 l0.length c0] w fun e w' => e = .returned (.bool r) ∧ Below w.heap.size w w' := by
 have HR0 := Aside0.mk hr0
 have HC0 := Aside0.mk hc0
 clear hr0 hc0
 have HB := Aside0.mk (Below.refl w.heap.size w)
 have H : ((spec_l2Good.f k l0).bind fun t109 => (if t109 = true then ((spec_l4Free.f k l0).bind fun t110 => (some t110)) else (some false))) = some r := h
 clear h
 replace H := Option.bind_eq_some_iff.mp H
 obtain ⟨t109, A20, H⟩ := H
 replace H : (if t109 = true then ((spec_l4Free.f k l0).bind fun t110 => (some t110)) else (some false)) = some r := H
 have A2 := Aside0.mk A20
 clear A20
 by_cases c3 : t109 = true
 rotate_left
 ·replace c3 := Bool.eq_false_iff.mpr c3
  subst c3
  have H1 : (some false) = some r := by rw [if_neg (show ¬ (false = true) by decide)] at H; exact H
  clear H
  have H := H1
  clear H1
  obtain rfl := Option.some.inj H
  go_enter Try.func31, Try.ntmps31
  go_wp2_with (first | ((with_reducible refine gate_callee (f := 37) rfl ?_); refine goesL_ (some 4) rfl rfl Try.func37 (by kernel_rfl) rfl #[.slice A0 l0.length c0] rfl (by (try simp only [mA_]); first | done | rfl | (simp only [List.length_drop, List.length_take]; rfl)) ?_; (with_reducible refine (spec_l2Good.calls k _ _ l0 false _ ?side1 ?side2 A2.out).mono ?_); (case side1 => repeat (first | exact HR0.out | (with_reducible refine Kd.C_alloc ?_ _) | (with_reducible refine Kd.C_drewN ?_ _) | (with_reducible refine Kd.C_drew ?_))); (case side2 => exact HC0.out); rintro e w6 ⟨rfl, hb⟩; refine ⟨_, rfl, ?_⟩; have n0_ := Aside0.mk (below_step (bw HB.out) hb); replace HB := n0_; clear n0_; (try clear hb); (try clear hb2); (try clear hk); (try clear hi)))
  go_ret
  exact ⟨by first | rfl | (simp [errW_none, errW_some] <;> rfl) | (simp [*, errW_none, errW_some] <;> rfl), bw HB.out⟩
 subst c3
 have H1 : ((spec_l4Free.f k l0).bind fun t110 => (some t110)) = some r := by rw [if_pos rfl] at H; exact H
 clear H
 have H := H1
 clear H1
 replace H := Option.bind_eq_some_iff.mp H
 obtain ⟨t110, A40, H⟩ := H
 replace H : (some t110) = some r := H
 have A4 := Aside0.mk A40
 clear A40
 obtain rfl := Option.some.inj H
 go_enter Try.func31, Try.ntmps31
 go_wp2_with (first | ((with_reducible refine gate_callee (f := 37) rfl ?_); refine goesL_ (some 4) rfl rfl Try.func37 (by kernel_rfl) rfl #[.slice A0 l0.length c0] rfl (by (try simp only [mA_]); first | done | rfl | (simp only [List.length_drop, List.length_take]; rfl)) ?_; (with_reducible refine (spec_l2Good.calls k _ _ l0 true _ ?side1 ?side2 A2.out).mono ?_); (case side1 => repeat (first | exact HR0.out | (with_reducible refine Kd.C_alloc ?_ _) | (with_reducible refine Kd.C_drewN ?_ _) | (with_reducible refine Kd.C_drew ?_))); (case side2 => exact HC0.out); rintro e w5 ⟨rfl, hb⟩; refine ⟨_, rfl, ?_⟩; have n0_ := Aside0.mk (below_step (bw HB.out) hb); replace HB := n0_; clear n0_; (try clear hb); (try clear hb2); (try clear hk); (try clear hi)) | (go_at_call 38; (with_reducible refine (spec_l4Free.calls k _ _ l0 t110 _ ?side1 ?side2 A4.out).mono ?_); (case side1 => first | exact bC HR0.out HB.out | exact Kd.C_below HR0.out HB.out); (case side2 => exact HC0.out); rintro e w' ⟨rfl, ⟨nd, rfl⟩⟩))
 go_ret
 exact ⟨by first | rfl | (simp [errW_none, errW_some] <;> rfl) | (simp [*, errW_none, errW_some] <;> rfl), bw HB.out⟩

/-! ### spec_l10Unit: function 24 -/
def spec_l10Unit.l0 : Nat → List (S37) → Int → Option (Bool)
 | 0, _, _ => none
 | k + 1, x0, x3 => if x3 < (x0.length : Int) then (if 0 ≤ x3 then (if ((rd_T37 x0 x3).f0) = 1 then (spec_l10Unit.l0 k x0 (wrap64 (x3 + 1))) else (some false)) else (none)) else ((spec_l6Good.f k x0).bind fun t112 => (some t112))
def spec_l10Unit.f (k : Nat) (l0 : List (S37)) : Option (Bool) := spec_l10Unit.l0 k l0 0
theorem spec_l10Unit.mono_l : ∀ k, (∀ y0 y1, LeO (spec_l10Unit.l0 k y0 y1) (spec_l10Unit.l0 (k + 1) y0 y1))
 | 0 => fun _ _ r h => by simp [spec_l10Unit.l0] at h
 | k + 1 => by
  have ih0 := spec_l10Unit.mono_l k
  ·intro y0 y1
   unfold spec_l10Unit.l0
   repeat' first
   | (with_reducible exact ih0 _ _)
   | (with_reducible exact spec_l6Good.mono _ _)
   | (with_reducible exact LeO.refl _)
   | (with_reducible exact LeO.none _)
   | (with_reducible refine LeO.ite ?_ ?_)
   | (with_reducible refine LeO.bind ?_ (fun _ => ?_))
   | exact ih0 _ _
   | exact spec_l6Good.mono _ _
   | exact LeO.none _
   | refine LeO.ite ?_ ?_
   | refine LeO.bind ?_ (fun _ => ?_)
theorem spec_l10Unit.mono : ∀ a0 k, LeO (spec_l10Unit.f k a0) (spec_l10Unit.f (k + 1) a0) := by
 intro a0 k
 have ih0 := spec_l10Unit.mono_l k
 unfold spec_l10Unit.f
 repeat' first
   | (with_reducible exact ih0 _ _)
   | (with_reducible exact spec_l6Good.mono _ _)
   | (with_reducible exact LeO.refl _)
   | (with_reducible exact LeO.none _)
   | (with_reducible refine LeO.ite ?_ ?_)
   | (with_reducible refine LeO.bind ?_ (fun _ => ?_))
   | exact ih0 _ _
   | exact spec_l6Good.mono _ _
   | exact LeO.none _
   | refine LeO.ite ?_ ?_
   | refine LeO.bind ?_ (fun _ => ?_)
set_option maxHeartbeats 8000000 in
set_option maxRecDepth 100000 in
theorem spec_l10Unit.calls (k : Nat) (A0 : Option Addr) (c0 : Nat) (l0 : List (S37)) (r : Bool) (w : World) (hr0 : Kd.C k37 w A0 l0.length l0) (hc0 : l0.length ≤ c0) (h : spec_l10Unit.f k l0 = some r) :
  Calls Try.prog 24 #[.slice A0 l0.length c0] w fun e w' => e = .returned (.bool r) ∧ Below w.heap.size w w' := by
 have HR0 := Aside0.mk hr0
 have HC0 := Aside0.mk hc0
 clear hr0 hc0
 have HB := Aside0.mk (Below.refl w.heap.size w)
 have H : (spec_l10Unit.l0 k l0 0) = some r := h
 clear h
 have H' := Aside0.mk H
 clear H
 go_enter Try.func24, Try.ntmps24
 go_wp2
 go_loopg [3] k (fun kq v3 w' => ∃ (x3_1 : Int), v3 = .int .i64 x3_1 ∧ Aside0 (spec_l10Unit.l0 kq l0 x3_1 = some r) ∧ Aside0 (kq ≤ k) ∧ Aside0 (Below w.heap.size w w'))
 case atStart => exact ⟨(0), (by first | rfl | (simp; done) | (simp [*]; done)), H', ⟨Nat.le_refl _⟩, ⟨bw HB.out⟩⟩
 case round =>
  clear H'
  obtain ⟨x3_1, rfl, HA, HK1, HB⟩ := hrel
  cases gk with
  | zero => exact absurd HA.out (by simp [spec_l10Unit.l0])
  | succ k1 =>
   have H := HA.out
   clear HA
   simp only [spec_l10Unit.l0] at H
   by_cases c2 : x3_1 < (l0.length : Int)
   rotate_left
   ·rw [if_neg c2] at H
    have c2b0 : decide (x3_1 < (l0.length : Int)) = false := decide_eq_false c2
    clear c2
    replace H := Option.bind_eq_some_iff.mp H
    obtain ⟨t112, A50, H⟩ := H
    replace H : (some t112) = some r := H
    have A5 := Aside0.mk A50
    clear A50
    obtain rfl := Option.some.inj H
    go_wp2_with (first | ((with_reducible refine gate_callee (f := 31) rfl ?_); refine goesL_ (some 17) rfl rfl Try.func31 (by kernel_rfl) rfl #[.slice A0 l0.length c0] rfl (by (try simp only [mA_]); first | done | rfl | (simp only [List.length_drop, List.length_take]; rfl)) ?_; (with_reducible refine (spec_l6Good.calls k1 _ _ l0 t112 _ ?side1 ?side2 A5.out).mono ?_); (case side1 => first | exact bC HR0.out HB.out | exact Kd.C_below HR0.out HB.out); (case side2 => exact HC0.out); rintro e w6 ⟨rfl, hb⟩; refine ⟨_, rfl, ?_⟩; have n0_ := Aside0.mk (below_step (bw HB.out) hb); replace HB := n0_; clear n0_; (try clear hb); (try clear hb2); (try clear hk); (try clear hi)))
    go_ret
    exact ⟨by first | rfl | (simp [errW_none, errW_some] <;> rfl) | (simp [*, errW_none, errW_some] <;> rfl), bw HB.out⟩
   rw [if_pos c2] at H
   have c2b0 : decide (x3_1 < (l0.length : Int)) = true := decide_eq_true c2
   clear c2
   by_cases c3 : 0 ≤ x3_1
   rotate_left
   ·rw [if_neg c3] at H
    exact absurd H (by simp)
   rw [if_pos c3] at H
   have c3b0 : decide (0 ≤ x3_1) = true := decide_eq_true c3
   clear c3
   by_cases c4 : ((rd_T37 l0 x3_1).f0) = 1
   rotate_left
   ·rw [if_neg c4] at H
    have c4b0 : (((rd_T37 l0 x3_1).f0) == 1) = false := beq_eq_false_iff_ne.mpr c4
    have c4b1 : (((rd_T37 l0 x3_1).f0) != 1) = true := bne_iff_ne.mpr c4
    obtain rfl := Option.some.inj H
    have p111 : 0 ≤ (x3_1 : Int) := of_decide_eq_true (by first | (with_reducible assumption) | assumption)
    have q111 : x3_1 < (l0.length : Int) := of_decide_eq_true (by first | (with_reducible assumption) | assumption)
    obtain ⟨ad111, e111, hx111_0, hx111_1, hx111_2, hx111_3⟩ := at_T37 HR0.out x3_1 p111 q111
    cases e111
    replace hx111_0 := (HB.out.cell (World.block_lt_of_cell? w _ hx111_0)).trans hx111_0
    replace hx111_1 := (HB.out.cell (World.block_lt_of_cell? w _ hx111_1)).trans hx111_1
    replace hx111_2 := (HB.out.cell (World.block_lt_of_cell? w _ hx111_2)).trans hx111_2
    replace hx111_3 := (HB.out.cell (World.block_lt_of_cell? w _ hx111_3)).trans hx111_3
    replace p111 := eq_true p111
    replace q111 := eq_true q111
    go_wp2
    go_ret
    exact ⟨by first | rfl | (simp [errW_none, errW_some] <;> rfl) | (simp [*, errW_none, errW_some] <;> rfl), bw HB.out⟩
   rw [if_pos c4] at H
   have c4b0 : (((rd_T37 l0 x3_1).f0) == 1) = true := beq_iff_eq.mpr c4
   have c4b1 : (((rd_T37 l0 x3_1).f0) != 1) = false := bne_eq_false_iff_eq.mpr c4
   clear c4
   have H' := Aside0.mk H
   clear H
   have p111 : 0 ≤ (x3_1 : Int) := of_decide_eq_true (by first | (with_reducible assumption) | assumption)
   have q111 : x3_1 < (l0.length : Int) := of_decide_eq_true (by first | (with_reducible assumption) | assumption)
   obtain ⟨ad111, e111, hx111_0, hx111_1, hx111_2, hx111_3⟩ := at_T37 HR0.out x3_1 p111 q111
   cases e111
   replace hx111_0 := (HB.out.cell (World.block_lt_of_cell? w _ hx111_0)).trans hx111_0
   replace hx111_1 := (HB.out.cell (World.block_lt_of_cell? w _ hx111_1)).trans hx111_1
   replace hx111_2 := (HB.out.cell (World.block_lt_of_cell? w _ hx111_2)).trans hx111_2
   replace hx111_3 := (HB.out.cell (World.block_lt_of_cell? w _ hx111_3)).trans hx111_3
   replace p111 := eq_true p111
   replace q111 := eq_true q111
   go_wp2
   go_roundg k1
   case measure => have := HK1.out; omega
   case rel => exact ⟨(wrap64 (x3_1 + 1)), (by first | rfl | (simp; done) | (simp [*]; done)), H', ⟨by have := HK1.out; omega⟩, ⟨bw HB.out⟩⟩

/-! ### spec_l1Rising: function 32 -/
def spec_l1Rising.l0 : Nat → List Int → Int → Int → Int → Option (Bool)
 | 0, _, _, _, _ => none
 | k + 1, x0, x1, x2, x7 => if x7 < (x0.length : Int) then (if 0 ≤ x7 then ((spec_l1In.f (rd x0 x7) x1 x2).bind fun t114 => (if t114 = true then (if x7 > 0 then (if 0 ≤ (wrap64 (x7 - 1)) then (if (wrap64 (x7 - 1)) < (x0.length : Int) then (if (rd x0 (wrap64 (x7 - 1))) ≥ (rd x0 x7) then (some false) else (spec_l1Rising.l0 k x0 x1 x2 (wrap64 (x7 + 1)))) else (none)) else (none)) else (spec_l1Rising.l0 k x0 x1 x2 (wrap64 (x7 + 1)))) else (some false))) else (none)) else (some true)
def spec_l1Rising.f (k : Nat) (l0 : List Int) (a1 : Int) (a2 : Int) : Option (Bool) := spec_l1Rising.l0 k l0 a1 a2 0
theorem spec_l1Rising.mono_l : ∀ k, (∀ y0 y1 y2 y3, LeO (spec_l1Rising.l0 k y0 y1 y2 y3) (spec_l1Rising.l0 (k + 1) y0 y1 y2 y3))
 | 0 => fun _ _ _ _ r h => by simp [spec_l1Rising.l0] at h
 | k + 1 => by
  have ih0 := spec_l1Rising.mono_l k
  ·intro y0 y1 y2 y3
   unfold spec_l1Rising.l0
   repeat' first
   | (with_reducible exact ih0 _ _ _ _)
   | (with_reducible exact LeO.refl _)
   | (with_reducible exact LeO.none _)
   | (with_reducible refine LeO.ite ?_ ?_)
   | (with_reducible refine LeO.bind ?_ (fun _ => ?_))
   | exact ih0 _ _ _ _
   | exact LeO.none _
   | refine LeO.ite ?_ ?_
   | refine LeO.bind ?_ (fun _ => ?_)
theorem spec_l1Rising.mono : ∀ a0 a1 a2 k, LeO (spec_l1Rising.f k a0 a1 a2) (spec_l1Rising.f (k + 1) a0 a1 a2) := by
 intro a0 a1 a2 k
 have ih0 := spec_l1Rising.mono_l k
 unfold spec_l1Rising.f
 repeat' first
   | (with_reducible exact ih0 _ _ _ _)
   | (with_reducible exact LeO.refl _)
   | (with_reducible exact LeO.none _)
   | (with_reducible refine LeO.ite ?_ ?_)
   | (with_reducible refine LeO.bind ?_ (fun _ => ?_))
   | exact ih0 _ _ _ _
   | exact LeO.none _
   | refine LeO.ite ?_ ?_
   | refine LeO.bind ?_ (fun _ => ?_)
set_option maxHeartbeats 8000000 in
set_option maxRecDepth 100000 in
theorem spec_l1Rising.calls (k : Nat) (A0 : Option Addr) (c0 : Nat) (l0 : List Int) (a1 : Int) (a2 : Int) (r : Bool) (w : World) (hr0 : Kd.C (Kd.int .i64) w A0 l0.length l0) (hc0 : l0.length ≤ c0) (h : spec_l1Rising.f k l0 a1 a2 = some r) :
  Calls Try.prog 32 #[.slice A0 l0.length c0, .int .i64 a1, .int .i64 a2] w fun e w' => e = .returned (.bool r) ∧ Drawn0 w w' := by
 have HR0 := Aside0.mk hr0
 have HC0 := Aside0.mk hc0
 clear hr0 hc0
 have H : (spec_l1Rising.l0 k l0 a1 a2 0) = some r := h
 clear h
 have H' := Aside0.mk H
 clear H
 go_enter Try.func32, Try.ntmps32
 go_wp2
 repeat (go_quiet (fail); try go_wp2)
 go_loopg [7] k (fun kq v7 w' => ∃ (x7_1 : Int), v7 = .int .i64 x7_1 ∧ Aside0 (spec_l1Rising.l0 kq l0 a1 a2 x7_1 = some r) ∧ Aside0 (kq ≤ k) ∧ Drawn0 w w')
 case atStart => exact ⟨(0), (by first | rfl | (simp; done) | (simp [*]; done)), H', ⟨Nat.le_refl _⟩, by repeat (first | exact Drawn0.refl _ | apply Drawn0.step)⟩
 case round =>
  clear H'
  try clear p2
  try clear c3
  obtain ⟨x7_1, rfl, HA, HK1, ⟨m1, rfl⟩⟩ := hrel
  cases gk with
  | zero => exact absurd HA.out (by simp [spec_l1Rising.l0])
  | succ k1 =>
   have H := HA.out
   clear HA
   simp only [spec_l1Rising.l0] at H
   by_cases c4 : x7_1 < (l0.length : Int)
   rotate_left
   ·rw [if_neg c4] at H
    have c4b0 : decide (x7_1 < (l0.length : Int)) = false := decide_eq_false c4
    clear c4
    obtain rfl := Option.some.inj H
    go_wp2
    repeat (go_quiet (fail); try go_wp2)
    go_ret
    exact ⟨by first | rfl | (simp; done) | (simp [*]; done), by repeat (first | exact Drawn0.refl _ | apply Drawn0.step)⟩
   rw [if_pos c4] at H
   have c4b0 : decide (x7_1 < (l0.length : Int)) = true := decide_eq_true c4
   clear c4
   by_cases c5 : 0 ≤ x7_1
   rotate_left
   ·rw [if_neg c5] at H
    exact absurd H (by simp)
   rw [if_pos c5] at H
   have c5b0 : decide (0 ≤ x7_1) = true := decide_eq_true c5
   clear c5
   replace H := Option.bind_eq_some_iff.mp H
   obtain ⟨t114, A60, H⟩ := H
   replace H : (if t114 = true then (if x7_1 > 0 then (if 0 ≤ (wrap64 (x7_1 - 1)) then (if (wrap64 (x7_1 - 1)) < (l0.length : Int) then (if (rd l0 (wrap64 (x7_1 - 1))) ≥ (rd l0 x7_1) then (some false) else (spec_l1Rising.l0 k1 l0 a1 a2 (wrap64 (x7_1 + 1)))) else (none)) else (none)) else (spec_l1Rising.l0 k1 l0 a1 a2 (wrap64 (x7_1 + 1)))) else (some false)) = some r := H
   have A6 := Aside0.mk A60
   clear A60
   by_cases c7 : t114 = true
   rotate_left
   ·replace c7 := Bool.eq_false_iff.mpr c7
    subst c7
    have H1 : (some false) = some r := by rw [if_neg (show ¬ (false = true) by decide)] at H; exact H
    clear H
    have H := H1
    clear H1
    obtain rfl := Option.some.inj H
    have p113 : 0 ≤ (x7_1 : Int) := of_decide_eq_true (by first | (with_reducible assumption) | assumption)
    have q113 : x7_1 < (l0.length : Int) := of_decide_eq_true (by first | (with_reducible assumption) | assumption)
    obtain ⟨ad113, e113, hx113_0⟩ := Kd.at_int HR0.out x7_1 p113 q113
    cases e113
    replace p113 := eq_true p113
    replace q113 := eq_true q113
    have go_ := True.intro
    repeat ((first | go_quiet (first | (go_at_call 39; (with_reducible refine (spec_l1In.calls (rd l0 x7_1) a1 a2 false _ A6.out).mono ?_); rintro e w' ⟨rfl, ⟨nd, rfl⟩⟩; (try first | exact ⟨rfl, _, World.drewN_drewN _ _ _⟩ | exact ⟨rfl, _, Eq.trans (World.drewN_drewN _ _ _) (congrArg (World.drewN _) (Nat.add_assoc _ _ _))⟩))) | clear go_); go_wp2_with (first | (go_at_call 39; (with_reducible refine (spec_l1In.calls (rd l0 x7_1) a1 a2 false _ A6.out).mono ?_); rintro e w' ⟨rfl, ⟨nd, rfl⟩⟩; (try first | exact ⟨rfl, _, World.drewN_drewN _ _ _⟩ | exact ⟨rfl, _, Eq.trans (World.drewN_drewN _ _ _) (congrArg (World.drewN _) (Nat.add_assoc _ _ _))⟩))))
    go_ret
    exact ⟨by first | rfl | (simp; done) | (simp [*]; done), by repeat (first | exact Drawn0.refl _ | apply Drawn0.step)⟩
   subst c7
   have H1 : (if x7_1 > 0 then (if 0 ≤ (wrap64 (x7_1 - 1)) then (if (wrap64 (x7_1 - 1)) < (l0.length : Int) then (if (rd l0 (wrap64 (x7_1 - 1))) ≥ (rd l0 x7_1) then (some false) else (spec_l1Rising.l0 k1 l0 a1 a2 (wrap64 (x7_1 + 1)))) else (none)) else (none)) else (spec_l1Rising.l0 k1 l0 a1 a2 (wrap64 (x7_1 + 1)))) = some r := by rw [if_pos rfl] at H; exact H
   clear H
   have H := H1
   clear H1
   by_cases c8 : x7_1 > 0
   rotate_left
   ·rw [if_neg c8] at H
    have c8b0 : decide (0 < x7_1) = false := decide_eq_false c8
    clear c8
    have H' := Aside0.mk H
    clear H
    have p113 : 0 ≤ (x7_1 : Int) := of_decide_eq_true (by first | (with_reducible assumption) | assumption)
    have q113 : x7_1 < (l0.length : Int) := of_decide_eq_true (by first | (with_reducible assumption) | assumption)
    obtain ⟨ad113, e113, hx113_0⟩ := Kd.at_int HR0.out x7_1 p113 q113
    cases e113
    replace p113 := eq_true p113
    replace q113 := eq_true q113
    have go_ := True.intro
    repeat ((first | go_quiet (first | (go_at_call 39; (with_reducible refine (spec_l1In.calls (rd l0 x7_1) a1 a2 true _ A6.out).mono ?_); rintro e w' ⟨rfl, ⟨nd, rfl⟩⟩; (try first | exact ⟨rfl, _, World.drewN_drewN _ _ _⟩ | exact ⟨rfl, _, Eq.trans (World.drewN_drewN _ _ _) (congrArg (World.drewN _) (Nat.add_assoc _ _ _))⟩))) | clear go_); go_wp2_with (first | (go_at_call 39; (with_reducible refine (spec_l1In.calls (rd l0 x7_1) a1 a2 true _ A6.out).mono ?_); rintro e w' ⟨rfl, ⟨nd, rfl⟩⟩; (try first | exact ⟨rfl, _, World.drewN_drewN _ _ _⟩ | exact ⟨rfl, _, Eq.trans (World.drewN_drewN _ _ _) (congrArg (World.drewN _) (Nat.add_assoc _ _ _))⟩))))
    go_roundg k1
    case measure => have := HK1.out; omega
    case rel => exact ⟨(wrap64 (x7_1 + 1)), (by first | rfl | (simp; done) | (simp [*]; done)), H', ⟨by have := HK1.out; omega⟩, by repeat (first | exact Drawn0.refl _ | apply Drawn0.step)⟩
   rw [if_pos c8] at H
   have c8b0 : decide (0 < x7_1) = true := decide_eq_true c8
   clear c8
   obtain ⟨ji9, hji9⟩ : ∃ j_ : Int, (wrap64 (x7_1 - 1)) = j_ := ⟨_, rfl⟩
   replace H : (if 0 ≤ (ji9) then (if (ji9) < (l0.length : Int) then (if (rd l0 (ji9)) ≥ (rd l0 x7_1) then (some false) else (spec_l1Rising.l0 k1 l0 a1 a2 (wrap64 (x7_1 + 1)))) else (none)) else (none)) = some r := by first | (rw [hji9] at H; exact H) | (simp only [hji9] at H ⊢; exact H)
   (try rw [hji9] at A6)
   have hji9w : (IntKind.i64.wrap (x7_1 - 1)) = ji9 := (i64_w _).trans hji9
   by_cases c10 : 0 ≤ (ji9)
   rotate_left
   ·rw [if_neg c10] at H
    exact absurd H (by simp)
   rw [if_pos c10] at H
   have c10b0 : decide (0 ≤ (ji9)) = true := decide_eq_true c10
   clear c10
   by_cases c11 : (ji9) < (l0.length : Int)
   rotate_left
   ·rw [if_neg c11] at H
    exact absurd H (by simp)
   rw [if_pos c11] at H
   have c11b0 : decide ((ji9) < (l0.length : Int)) = true := decide_eq_true c11
   clear c11
   by_cases c12 : (rd l0 (ji9)) ≥ (rd l0 x7_1)
   ·rw [if_pos c12] at H
    have c12b0 : decide ((rd l0 x7_1) ≤ (rd l0 (ji9))) = true := decide_eq_true c12
    clear c12
    obtain rfl := Option.some.inj H
    have p113 : 0 ≤ (x7_1 : Int) := of_decide_eq_true (by first | (with_reducible assumption) | assumption)
    have q113 : x7_1 < (l0.length : Int) := of_decide_eq_true (by first | (with_reducible assumption) | assumption)
    obtain ⟨ad113, e113, hx113_0⟩ := Kd.at_int HR0.out x7_1 p113 q113
    cases e113
    replace p113 := eq_true p113
    replace q113 := eq_true q113
    have go_ := True.intro
    repeat ((first | go_quiet (first | (go_at_call 39; (with_reducible refine (spec_l1In.calls (rd l0 x7_1) a1 a2 true _ A6.out).mono ?_); rintro e w' ⟨rfl, ⟨nd, rfl⟩⟩; (try first | exact ⟨rfl, _, World.drewN_drewN _ _ _⟩ | exact ⟨rfl, _, Eq.trans (World.drewN_drewN _ _ _) (congrArg (World.drewN _) (Nat.add_assoc _ _ _))⟩); have p115 : 0 ≤ ((ji9) : Int) := of_decide_eq_true (by first | (with_reducible assumption) | assumption); have q115 : (ji9) < (l0.length : Int) := of_decide_eq_true (by first | (with_reducible assumption) | assumption); obtain ⟨ad115, e115, hx115_0⟩ := Kd.at_int HR0.out (ji9) p115 q115; obtain rfl : ad113 = ad115 := (by injection e115); replace p115 := eq_true p115; replace q115 := eq_true q115; have p116 : 0 ≤ (x7_1 : Int) := of_decide_eq_true (by first | (with_reducible assumption) | assumption); have q116 : x7_1 < (l0.length : Int) := of_decide_eq_true (by first | (with_reducible assumption) | assumption); obtain ⟨ad116, e116, hx116_0⟩ := Kd.at_int HR0.out x7_1 p116 q116; obtain rfl : ad113 = ad116 := (by injection e116); replace p116 := eq_true p116; replace q116 := eq_true q116)) | clear go_); go_wp2_with (first | (go_at_call 39; (with_reducible refine (spec_l1In.calls (rd l0 x7_1) a1 a2 true _ A6.out).mono ?_); rintro e w' ⟨rfl, ⟨nd, rfl⟩⟩; (try first | exact ⟨rfl, _, World.drewN_drewN _ _ _⟩ | exact ⟨rfl, _, Eq.trans (World.drewN_drewN _ _ _) (congrArg (World.drewN _) (Nat.add_assoc _ _ _))⟩); have p115 : 0 ≤ ((ji9) : Int) := of_decide_eq_true (by first | (with_reducible assumption) | assumption); have q115 : (ji9) < (l0.length : Int) := of_decide_eq_true (by first | (with_reducible assumption) | assumption); obtain ⟨ad115, e115, hx115_0⟩ := Kd.at_int HR0.out (ji9) p115 q115; obtain rfl : ad113 = ad115 := (by injection e115); replace p115 := eq_true p115; replace q115 := eq_true q115; have p116 : 0 ≤ (x7_1 : Int) := of_decide_eq_true (by first | (with_reducible assumption) | assumption); have q116 : x7_1 < (l0.length : Int) := of_decide_eq_true (by first | (with_reducible assumption) | assumption); obtain ⟨ad116, e116, hx116_0⟩ := Kd.at_int HR0.out x7_1 p116 q116; obtain rfl : ad113 = ad116 := (by injection e116); replace p116 := eq_true p116; replace q116 := eq_true q116)))
    go_ret
    exact ⟨by first | rfl | (simp; done) | (simp only [← hji9] <;> (first | rfl | simp)) | (simp [*]; done), by repeat (first | exact Drawn0.refl _ | apply Drawn0.step)⟩
   rw [if_neg c12] at H
   have c12b0 : decide ((rd l0 x7_1) ≤ (rd l0 (ji9))) = false := decide_eq_false c12
   clear c12
   have H' := Aside0.mk H
   clear H
   have p113 : 0 ≤ (x7_1 : Int) := of_decide_eq_true (by first | (with_reducible assumption) | assumption)
   have q113 : x7_1 < (l0.length : Int) := of_decide_eq_true (by first | (with_reducible assumption) | assumption)
   obtain ⟨ad113, e113, hx113_0⟩ := Kd.at_int HR0.out x7_1 p113 q113
   cases e113
   replace p113 := eq_true p113
   replace q113 := eq_true q113
   have go_ := True.intro
   repeat ((first | go_quiet (first | (go_at_call 39; (with_reducible refine (spec_l1In.calls (rd l0 x7_1) a1 a2 true _ A6.out).mono ?_); rintro e w' ⟨rfl, ⟨nd, rfl⟩⟩; (try first | exact ⟨rfl, _, World.drewN_drewN _ _ _⟩ | exact ⟨rfl, _, Eq.trans (World.drewN_drewN _ _ _) (congrArg (World.drewN _) (Nat.add_assoc _ _ _))⟩); have p115 : 0 ≤ ((ji9) : Int) := of_decide_eq_true (by first | (with_reducible assumption) | assumption); have q115 : (ji9) < (l0.length : Int) := of_decide_eq_true (by first | (with_reducible assumption) | assumption); obtain ⟨ad115, e115, hx115_0⟩ := Kd.at_int HR0.out (ji9) p115 q115; obtain rfl : ad113 = ad115 := (by injection e115); replace p115 := eq_true p115; replace q115 := eq_true q115; have p116 : 0 ≤ (x7_1 : Int) := of_decide_eq_true (by first | (with_reducible assumption) | assumption); have q116 : x7_1 < (l0.length : Int) := of_decide_eq_true (by first | (with_reducible assumption) | assumption); obtain ⟨ad116, e116, hx116_0⟩ := Kd.at_int HR0.out x7_1 p116 q116; obtain rfl : ad113 = ad116 := (by injection e116); replace p116 := eq_true p116; replace q116 := eq_true q116)) | clear go_); go_wp2_with (first | (go_at_call 39; (with_reducible refine (spec_l1In.calls (rd l0 x7_1) a1 a2 true _ A6.out).mono ?_); rintro e w' ⟨rfl, ⟨nd, rfl⟩⟩; (try first | exact ⟨rfl, _, World.drewN_drewN _ _ _⟩ | exact ⟨rfl, _, Eq.trans (World.drewN_drewN _ _ _) (congrArg (World.drewN _) (Nat.add_assoc _ _ _))⟩); have p115 : 0 ≤ ((ji9) : Int) := of_decide_eq_true (by first | (with_reducible assumption) | assumption); have q115 : (ji9) < (l0.length : Int) := of_decide_eq_true (by first | (with_reducible assumption) | assumption); obtain ⟨ad115, e115, hx115_0⟩ := Kd.at_int HR0.out (ji9) p115 q115; obtain rfl : ad113 = ad115 := (by injection e115); replace p115 := eq_true p115; replace q115 := eq_true q115; have p116 : 0 ≤ (x7_1 : Int) := of_decide_eq_true (by first | (with_reducible assumption) | assumption); have q116 : x7_1 < (l0.length : Int) := of_decide_eq_true (by first | (with_reducible assumption) | assumption); obtain ⟨ad116, e116, hx116_0⟩ := Kd.at_int HR0.out x7_1 p116 q116; obtain rfl : ad113 = ad116 := (by injection e116); replace p116 := eq_true p116; replace q116 := eq_true q116)))
   go_roundg k1
   case measure => have := HK1.out; omega
   case rel => exact ⟨(wrap64 (x7_1 + 1)), (by first | rfl | (simp; done) | (simp [*]; done)), H', ⟨by have := HK1.out; omega⟩, by repeat (first | exact Drawn0.refl _ | apply Drawn0.step)⟩

/-! ### spec_l6Set: function 25 -/
def spec_l6Set.f (k : Nat) (l0 : List (S37)) (l1 : List Int) : Option (Bool) := (spec_l1Rising.f k l1 0 (wrap64 ((l0.length : Int) - 1))).bind fun t117 => (some t117)
theorem spec_l6Set.mono : ∀ a0 a1 k, LeO (spec_l6Set.f k a0 a1) (spec_l6Set.f (k + 1) a0 a1) := by
 intro a0 a1 k
 unfold spec_l6Set.f
 repeat' first
   | (with_reducible exact spec_l1Rising.mono _ _ _ _)
   | (with_reducible exact LeO.refl _)
   | (with_reducible exact LeO.none _)
   | (with_reducible refine LeO.ite ?_ ?_)
   | (with_reducible refine LeO.bind ?_ (fun _ => ?_))
   | exact spec_l1Rising.mono _ _ _ _
   | exact LeO.none _
   | refine LeO.ite ?_ ?_
   | refine LeO.bind ?_ (fun _ => ?_)
set_option maxHeartbeats 8000000 in
set_option maxRecDepth 100000 in
theorem spec_l6Set.calls (k : Nat) (A0 : Option Addr) (c0 : Nat) (l0 : List (S37)) (A1 : Option Addr) (c1 : Nat) (l1 : List Int) (r : Bool) (w : World) (hr0 : Kd.C k37 w A0 l0.length l0) (hc0 : l0.length ≤ c0) (hr1 : Kd.C (Kd.int .i64) w A1 l1.length l1) (hc1 : l1.length ≤ c1) (h : spec_l6Set.f k l0 l1 = some r) :
  Calls Try.prog 25 #[.slice A0 l0.length c0, .slice A1 l1.length c1] w fun e w' => e = .returned (.bool r) ∧ Drawn0 w w' := by
 have HR0 := Aside0.mk hr0
 have HC0 := Aside0.mk hc0
 clear hr0 hc0
 have HR1 := Aside0.mk hr1
 have HC1 := Aside0.mk hc1
 clear hr1 hc1
 have H : ((spec_l1Rising.f k l1 0 (wrap64 ((l0.length : Int) - 1))).bind fun t117 => (some t117)) = some r := h
 clear h
 replace H := Option.bind_eq_some_iff.mp H
 obtain ⟨t117, A30, H⟩ := H
 replace H : (some t117) = some r := H
 have A3 := Aside0.mk A30
 clear A30
 obtain rfl := Option.some.inj H
 go_enter Try.func25, Try.ntmps25
 go_wp2_with (first | ((with_reducible refine gate_callee (f := 32) rfl ?_); refine goesL_ (some 9) rfl rfl Try.func32 (by kernel_rfl) rfl #[.slice A1 l1.length c1, .int .i64 0, .int .i64 (wrap64 ((l0.length : Int) - 1))] rfl (by (try simp only [mA_]); first | done | rfl | (simp only [List.length_drop, List.length_take]; rfl)) ?_; (with_reducible refine (spec_l1Rising.calls k _ _ l1 0 (wrap64 ((l0.length : Int) - 1)) t117 _ ?side1 ?side2 A3.out).mono ?_); (case side1 => repeat (first | exact HR1.out | (with_reducible refine Kd.C_alloc ?_ _) | (with_reducible refine Kd.C_drewN ?_ _) | (with_reducible refine Kd.C_drew ?_))); (case side2 => exact HC1.out); rintro e w' ⟨rfl, ⟨nd, rfl⟩⟩; refine ⟨_, rfl, ?_⟩))
 go_ret
 exact ⟨by first | rfl | (simp; done) | (simp [*]; done), by repeat (first | exact Drawn0.refl _ | apply Drawn0.step)⟩

/-! ### spec_l6Sooner: function 40 -/
def spec_l6Sooner.f (l0 : List (S37)) (a1 : Int) (a2 : Int) : Option (Bool) := if 0 ≤ a1 then (if a1 < (l0.length : Int) then (if 0 ≤ a2 then (if a2 < (l0.length : Int) then (if ((rd_T37 l0 a1).f3) = ((rd_T37 l0 a2).f3) then (if ((rd_T37 l0 a1).f0) = ((rd_T37 l0 a2).f0) then (some (decide (a1 < a2))) else (some (decide (((rd_T37 l0 a1).f0) < ((rd_T37 l0 a2).f0))))) else (some (decide (((rd_T37 l0 a1).f3) < ((rd_T37 l0 a2).f3))))) else (none)) else (none)) else (none)) else (none)
set_option maxHeartbeats 8000000 in
set_option maxRecDepth 100000 in
theorem spec_l6Sooner.calls (A0 : Option Addr) (c0 : Nat) (l0 : List (S37)) (a1 : Int) (a2 : Int) (r : Bool) (w : World) (hr0 : Kd.C k37 w A0 l0.length l0) (hc0 : l0.length ≤ c0) (h : spec_l6Sooner.f l0 a1 a2 = some r) :
  Calls Try.prog 40 #[.slice A0 l0.length c0, .int .i64 a1, .int .i64 a2] w fun e w' => e = .returned (.bool r) ∧ Drawn0 w w' := by
 have HR0 := Aside0.mk hr0
 have HC0 := Aside0.mk hc0
 clear hr0 hc0
 have H : (if 0 ≤ a1 then (if a1 < (l0.length : Int) then (if 0 ≤ a2 then (if a2 < (l0.length : Int) then (if ((rd_T37 l0 a1).f3) = ((rd_T37 l0 a2).f3) then (if ((rd_T37 l0 a1).f0) = ((rd_T37 l0 a2).f0) then (some (decide (a1 < a2))) else (some (decide (((rd_T37 l0 a1).f0) < ((rd_T37 l0 a2).f0))))) else (some (decide (((rd_T37 l0 a1).f3) < ((rd_T37 l0 a2).f3))))) else (none)) else (none)) else (none)) else (none)) = some r := h
 clear h
 by_cases c4 : 0 ≤ a1
 rotate_left
 ·rw [if_neg c4] at H
  exact absurd H (by simp)
 rw [if_pos c4] at H
 have c4b0 : decide (0 ≤ a1) = true := decide_eq_true c4
 clear c4
 by_cases c5 : a1 < (l0.length : Int)
 rotate_left
 ·rw [if_neg c5] at H
  exact absurd H (by simp)
 rw [if_pos c5] at H
 have c5b0 : decide (a1 < (l0.length : Int)) = true := decide_eq_true c5
 clear c5
 by_cases c6 : 0 ≤ a2
 rotate_left
 ·rw [if_neg c6] at H
  exact absurd H (by simp)
 rw [if_pos c6] at H
 have c6b0 : decide (0 ≤ a2) = true := decide_eq_true c6
 clear c6
 by_cases c7 : a2 < (l0.length : Int)
 rotate_left
 ·rw [if_neg c7] at H
  exact absurd H (by simp)
 rw [if_pos c7] at H
 have c7b0 : decide (a2 < (l0.length : Int)) = true := decide_eq_true c7
 clear c7
 by_cases c8 : ((rd_T37 l0 a1).f3) = ((rd_T37 l0 a2).f3)
 rotate_left
 ·rw [if_neg c8] at H
  have c8b0 : (((rd_T37 l0 a1).f3) == ((rd_T37 l0 a2).f3)) = false := beq_eq_false_iff_ne.mpr c8
  have c8b1 : (((rd_T37 l0 a1).f3) != ((rd_T37 l0 a2).f3)) = true := bne_iff_ne.mpr c8
  obtain rfl := Option.some.inj H
  have p118 : 0 ≤ (a1 : Int) := of_decide_eq_true (by first | (with_reducible assumption) | assumption)
  have q118 : a1 < (l0.length : Int) := of_decide_eq_true (by first | (with_reducible assumption) | assumption)
  obtain ⟨ad118, e118, hx118_0, hx118_1, hx118_2, hx118_3⟩ := at_T37 HR0.out a1 p118 q118
  cases e118
  replace p118 := eq_true p118
  replace q118 := eq_true q118
  have p119 : 0 ≤ (a2 : Int) := of_decide_eq_true (by first | (with_reducible assumption) | assumption)
  have q119 : a2 < (l0.length : Int) := of_decide_eq_true (by first | (with_reducible assumption) | assumption)
  obtain ⟨ad119, e119, hx119_0, hx119_1, hx119_2, hx119_3⟩ := at_T37 HR0.out a2 p119 q119
  obtain rfl : ad118 = ad119 := (by injection e119)
  replace p119 := eq_true p119
  replace q119 := eq_true q119
  have p124 : 0 ≤ (a1 : Int) := of_decide_eq_true (by first | (with_reducible assumption) | assumption)
  have q124 : a1 < (l0.length : Int) := of_decide_eq_true (by first | (with_reducible assumption) | assumption)
  obtain ⟨ad124, e124, hx124_0, hx124_1, hx124_2, hx124_3⟩ := at_T37 HR0.out a1 p124 q124
  obtain rfl : ad118 = ad124 := (by injection e124)
  replace p124 := eq_true p124
  replace q124 := eq_true q124
  have p125 : 0 ≤ (a2 : Int) := of_decide_eq_true (by first | (with_reducible assumption) | assumption)
  have q125 : a2 < (l0.length : Int) := of_decide_eq_true (by first | (with_reducible assumption) | assumption)
  obtain ⟨ad125, e125, hx125_0, hx125_1, hx125_2, hx125_3⟩ := at_T37 HR0.out a2 p125 q125
  obtain rfl : ad118 = ad125 := (by injection e125)
  replace p125 := eq_true p125
  replace q125 := eq_true q125
  go_enter Try.func40, Try.ntmps40
  go_wp2
  repeat (go_quiet (fail); try go_wp2)
  go_ret
  exact ⟨by first | rfl | (simp; done) | (simp [*]; done), by repeat (first | exact Drawn0.refl _ | apply Drawn0.step)⟩
 rw [if_pos c8] at H
 have c8b0 : (((rd_T37 l0 a1).f3) == ((rd_T37 l0 a2).f3)) = true := beq_iff_eq.mpr c8
 have c8b1 : (((rd_T37 l0 a1).f3) != ((rd_T37 l0 a2).f3)) = false := bne_eq_false_iff_eq.mpr c8
 clear c8
 by_cases c9 : ((rd_T37 l0 a1).f0) = ((rd_T37 l0 a2).f0)
 ·rw [if_pos c9] at H
  have c9b0 : (((rd_T37 l0 a1).f0) == ((rd_T37 l0 a2).f0)) = true := beq_iff_eq.mpr c9
  have c9b1 : (((rd_T37 l0 a1).f0) != ((rd_T37 l0 a2).f0)) = false := bne_eq_false_iff_eq.mpr c9
  clear c9
  obtain rfl := Option.some.inj H
  have p118 : 0 ≤ (a1 : Int) := of_decide_eq_true (by first | (with_reducible assumption) | assumption)
  have q118 : a1 < (l0.length : Int) := of_decide_eq_true (by first | (with_reducible assumption) | assumption)
  obtain ⟨ad118, e118, hx118_0, hx118_1, hx118_2, hx118_3⟩ := at_T37 HR0.out a1 p118 q118
  cases e118
  replace p118 := eq_true p118
  replace q118 := eq_true q118
  have p119 : 0 ≤ (a2 : Int) := of_decide_eq_true (by first | (with_reducible assumption) | assumption)
  have q119 : a2 < (l0.length : Int) := of_decide_eq_true (by first | (with_reducible assumption) | assumption)
  obtain ⟨ad119, e119, hx119_0, hx119_1, hx119_2, hx119_3⟩ := at_T37 HR0.out a2 p119 q119
  obtain rfl : ad118 = ad119 := (by injection e119)
  replace p119 := eq_true p119
  replace q119 := eq_true q119
  have p120 : 0 ≤ (a1 : Int) := of_decide_eq_true (by first | (with_reducible assumption) | assumption)
  have q120 : a1 < (l0.length : Int) := of_decide_eq_true (by first | (with_reducible assumption) | assumption)
  obtain ⟨ad120, e120, hx120_0, hx120_1, hx120_2, hx120_3⟩ := at_T37 HR0.out a1 p120 q120
  obtain rfl : ad118 = ad120 := (by injection e120)
  replace p120 := eq_true p120
  replace q120 := eq_true q120
  have p121 : 0 ≤ (a2 : Int) := of_decide_eq_true (by first | (with_reducible assumption) | assumption)
  have q121 : a2 < (l0.length : Int) := of_decide_eq_true (by first | (with_reducible assumption) | assumption)
  obtain ⟨ad121, e121, hx121_0, hx121_1, hx121_2, hx121_3⟩ := at_T37 HR0.out a2 p121 q121
  obtain rfl : ad118 = ad121 := (by injection e121)
  replace p121 := eq_true p121
  replace q121 := eq_true q121
  go_enter Try.func40, Try.ntmps40
  go_wp2
  repeat (go_quiet (fail); try go_wp2)
  go_ret
  exact ⟨by first | rfl | (simp; done) | (simp [*]; done), by repeat (first | exact Drawn0.refl _ | apply Drawn0.step)⟩
 rw [if_neg c9] at H
 have c9b0 : (((rd_T37 l0 a1).f0) == ((rd_T37 l0 a2).f0)) = false := beq_eq_false_iff_ne.mpr c9
 have c9b1 : (((rd_T37 l0 a1).f0) != ((rd_T37 l0 a2).f0)) = true := bne_iff_ne.mpr c9
 obtain rfl := Option.some.inj H
 have p118 : 0 ≤ (a1 : Int) := of_decide_eq_true (by first | (with_reducible assumption) | assumption)
 have q118 : a1 < (l0.length : Int) := of_decide_eq_true (by first | (with_reducible assumption) | assumption)
 obtain ⟨ad118, e118, hx118_0, hx118_1, hx118_2, hx118_3⟩ := at_T37 HR0.out a1 p118 q118
 cases e118
 replace p118 := eq_true p118
 replace q118 := eq_true q118
 have p119 : 0 ≤ (a2 : Int) := of_decide_eq_true (by first | (with_reducible assumption) | assumption)
 have q119 : a2 < (l0.length : Int) := of_decide_eq_true (by first | (with_reducible assumption) | assumption)
 obtain ⟨ad119, e119, hx119_0, hx119_1, hx119_2, hx119_3⟩ := at_T37 HR0.out a2 p119 q119
 obtain rfl : ad118 = ad119 := (by injection e119)
 replace p119 := eq_true p119
 replace q119 := eq_true q119
 have p120 : 0 ≤ (a1 : Int) := of_decide_eq_true (by first | (with_reducible assumption) | assumption)
 have q120 : a1 < (l0.length : Int) := of_decide_eq_true (by first | (with_reducible assumption) | assumption)
 obtain ⟨ad120, e120, hx120_0, hx120_1, hx120_2, hx120_3⟩ := at_T37 HR0.out a1 p120 q120
 obtain rfl : ad118 = ad120 := (by injection e120)
 replace p120 := eq_true p120
 replace q120 := eq_true q120
 have p121 : 0 ≤ (a2 : Int) := of_decide_eq_true (by first | (with_reducible assumption) | assumption)
 have q121 : a2 < (l0.length : Int) := of_decide_eq_true (by first | (with_reducible assumption) | assumption)
 obtain ⟨ad121, e121, hx121_0, hx121_1, hx121_2, hx121_3⟩ := at_T37 HR0.out a2 p121 q121
 obtain rfl : ad118 = ad121 := (by injection e121)
 replace p121 := eq_true p121
 replace q121 := eq_true q121
 have p122 : 0 ≤ (a1 : Int) := of_decide_eq_true (by first | (with_reducible assumption) | assumption)
 have q122 : a1 < (l0.length : Int) := of_decide_eq_true (by first | (with_reducible assumption) | assumption)
 obtain ⟨ad122, e122, hx122_0, hx122_1, hx122_2, hx122_3⟩ := at_T37 HR0.out a1 p122 q122
 obtain rfl : ad118 = ad122 := (by injection e122)
 replace p122 := eq_true p122
 replace q122 := eq_true q122
 have p123 : 0 ≤ (a2 : Int) := of_decide_eq_true (by first | (with_reducible assumption) | assumption)
 have q123 : a2 < (l0.length : Int) := of_decide_eq_true (by first | (with_reducible assumption) | assumption)
 obtain ⟨ad123, e123, hx123_0, hx123_1, hx123_2, hx123_3⟩ := at_T37 HR0.out a2 p123 q123
 obtain rfl : ad118 = ad123 := (by injection e123)
 replace p123 := eq_true p123
 replace q123 := eq_true q123
 go_enter Try.func40, Try.ntmps40
 go_wp2
 repeat (go_quiet (fail); try go_wp2)
 go_ret
 exact ⟨by first | rfl | (simp; done) | (simp [*]; done), by repeat (first | exact Drawn0.refl _ | apply Drawn0.step)⟩

/-! ### spec_l6Due: function 33 -/
abbrev q33_0 : Array Bool := ⟨rl_ [16] false⟩
abbrev q33_1 : Array Bool := ⟨rl_ [1, 3, 1, 4, 7] false⟩
abbrev q33_2 : Array Bool := ⟨rl_ [10, 1, 3, 2] true⟩
abbrev q33_3 : Array Bool := ⟨rl_ [4, 1, 4, 2, 3, 2] true⟩
abbrev q33_4 : Array Bool := ⟨rl_ [1, 3, 1, 5, 1, 3, 2] false⟩
abbrev q33_5 : Array Bool := ⟨rl_ [9, 2, 3, 2] true⟩
abbrev q33_6 : Array Bool := ⟨rl_ [4, 1, 5, 1, 3, 2] true⟩
abbrev q33_7 : Array Bool := ⟨rl_ [14, 2] true⟩
abbrev q33_8 : Array Bool := ⟨rl_ [15, 1] true⟩
/-- How many of a row a number stands behind. -/
def spec_l6Due.posR (l0 : List (S37)) (x : Int) : List Int → Option Nat
 | [] => some 0
 | y :: r => (spec_l6Sooner.f l0 y x).bind fun g => if g = true then (spec_l6Due.posR l0 x r).map (· + 1) else some 0
def spec_l6Due.go (l0 : List (S37)) : List Int → List Int → Option (List Int)
 | [], out => some out
 | x :: r, out => (spec_l6Due.posR l0 x out).bind fun k => spec_l6Due.go l0 r (out.take k ++ x :: out.drop k)
theorem spec_l6Due.posR_le (l0 : List (S37)) (x : Int) : ∀ (r : List Int) (k : Nat), spec_l6Due.posR l0 x r = some k → k ≤ r.length
 | [], k, h => by
  simp only [spec_l6Due.posR, Option.some.injEq] at h
  simp; omega
 | y :: r, k, h => by
  rw [spec_l6Due.posR] at h
  obtain ⟨g, hg, h⟩ := Option.bind_eq_some_iff.mp h
  split at h
  ·obtain ⟨j, hj, rfl⟩ := Option.map_eq_some_iff.mp h
   have := spec_l6Due.posR_le l0 x r j hj
   simp; omega
  ·simp only [Option.some.injEq] at h
   omega
def spec_l6Due.f (l0 : List (S37)) (l1 : List Int) : Option (List (Int)) := if l1.length ≤ 1000000 then spec_l6Due.go l0 l1 [] else none
set_option maxHeartbeats 8000000 in
set_option maxRecDepth 100000 in
theorem spec_l6Due.calls (A0 : Option Addr) (c0 : Nat) (l0 : List (S37)) (A1 : Option Addr) (c1 : Nat) (l1 : List Int) (r : List (Int)) (w : World) (hr0 : Kd.C k37 w A0 l0.length l0) (hc0 : l0.length ≤ c0) (hr1 : Kd.C (Kd.int .i64) w A1 l1.length l1) (hc1 : l1.length ≤ c1) (h : spec_l6Due.f l0 l1 = some r) :
  Calls Try.prog 33 #[.slice A0 l0.length c0, .slice A1 l1.length c1] w fun e w' => ∃ v0_ : Value, e = .returned (v0_) ∧ Kd.R (Kd.int .i64) 3 w' w.heap.size (fun _ => True) v0_ r ∧ Below w.heap.size w w' := by
 unfold spec_l6Due.f at h
 split at h
 case isFalse => cases h
 case isTrue hn =>
 have HR0 := Aside0.mk hr0
 have HC0 := Aside0.mk hc0
 have HR1 := Aside0.mk hr1
 have HL := Aside0.mk hn
 have H' := Aside0.mk h
 have HB := Aside0.mk (Below.refl w.heap.size w)
 clear hr0 hc0 hr1 hc1 hn h
 go_enter Try.func33, Try.ntmps33
 go_wp2_with ((with_reducible refine gate_dst (N := 8) rfl ?_); refine Kd.R_lit (Kd.int .i64) _ 3 ?hg (N := 8) ?hd (xs := ([] : List Int)) (inner := []) (ok := fun _ => True) (okp := fun _ => True) ?hr ?hp (fun _ hk => hk) trivial (Below.refl _ _) (Nat.le_refl _) (by simp) ?_; (case hd => rfl); (case hg => rfl); (case hr => first | (go_simp; done) | (go_simp; rfl)); (case hp => exact (Reps.none _ _)); intro v8 w3 ho4 hb hg_ hnew_; clear hg_ hnew_; have HR := Aside0.mk (Kd.R_lower ho4 (below_size (bw HB.out))); have n1_ := Aside0.mk (below_step (bw HB.out) hb); replace HB := n1_; clear n1_ hb ho4)
 go_loopg [5, 6] l1.length (fun kq v5 v6 w' => ∃ (i : Int) (pre rest out : List Int), v6 = .int .i64 i ∧ Aside0 (i = (pre.length : Int)) ∧ Aside0 (l1 = pre ++ rest) ∧ Aside0 (rest.length = kq) ∧ Aside0 (out.length = pre.length) ∧ Aside0 (spec_l6Due.go l0 rest out = some r) ∧ Aside0 (Kd.R (Kd.int .i64) 3 w' w.heap.size (fun _ => True) v5 out) ∧ Aside0 (Below w.heap.size w w'))
 case atStart => exact ⟨0, [], l1, [], rfl, ⟨rfl⟩, ⟨rfl⟩, ⟨rfl⟩, ⟨rfl⟩, H', HR, HB⟩
 case round =>
  clear H' HB HR
  obtain ⟨i, pre, rest, out, rfl, HI, HA, HN, HO, H, HR, HB⟩ := hrel
  have hlen : l1.length = pre.length + rest.length := by rw [HA.out, List.length_append]
  have hi0 := HI.out
  cases rest with
  | nil =>
   simp only [List.length_nil, Nat.add_zero] at hlen
   have e3 : decide (i < (l1.length : Int)) = false := decide_eq_false (by omega)
   obtain rfl : out = r := by
    have := H.out
    simpa [spec_l6Due.go] using this
   clear hlen hi0
   go_wp2
   go_ret
   exact ⟨_, rfl, HR.out, HB.out⟩
  | cons x rest =>
   simp only [List.length_cons] at hlen
   have hl9 := HL.out
   have e3 : decide (i < (l1.length : Int)) = true := decide_eq_true (by omega)
   have p1 : 0 ≤ i := by omega
   have q1 : i < (l1.length : Int) := by omega
   have hx : rd l1 i = x := by
    rw [HA.out, hi0]
    show (pre ++ x :: rest).getD (pre.length : Int).toNat 0 = x
    simp
   obtain ⟨ad1, ea, hxc⟩ := Kd.at_int HR1.out i p1 q1
   rw [hx] at hxc
   cases ea
   have HX1 := Aside0.mk hxc
   clear hxc hx
   obtain ⟨kq, rfl⟩ : ∃ kq, gk = kq + 1 := ⟨rest.length, by have := HN.out; simpa using this.symm⟩
   obtain ⟨kk, hkk, hrest⟩ := Option.bind_eq_some_iff.mp (show (spec_l6Due.posR l0 x out).bind _ = some r from H.out)
   have HK := Aside0.mk hkk
   have HS := Aside0.mk hrest
   have HKL := Aside0.mk (spec_l6Due.posR_le _ _ _ _ hkk)
   clear hkk hrest
   obtain ⟨Ao, co, eo⟩ := Kd.R_slice HR.out
   subst eo
   have HLN := Aside0.mk hlen
   have HW := Aside0.mk (show wrap64 (i + 1) = i + 1 from by unfold wrap64; omega)
   have hw0 := HW.out
   have hw02 : IntKind.i64.wrap (i + 1) = i + 1 := (i64_w _).trans hw0
   have p1b := eq_true p1
   have q1b := eq_true q1
   clear hi0 hl9 hlen p1 q1
   go_wp2
   go_loopg [7] out.length (fun q v7 w' => ∃ (j : Nat) (rs : List Int) (k2 : Nat), v7 = .int .i64 (j : Int) ∧ Aside0 (j + q = out.length) ∧ Aside0 (rs = out.drop j) ∧ Aside0 (spec_l6Due.posR l0 x rs = some k2 ∧ j + k2 = kk) ∧ Aside0 (Kd.R (Kd.int .i64) 3 w' w.heap.size (fun _ => True) (.slice Ao out.length co) out) ∧ Aside0 (Below w.heap.size w w'))
   case atStart => exact ⟨0, out, kk, rfl, ⟨Nat.zero_add _⟩, ⟨rfl⟩, ⟨HK.out, Nat.zero_add _⟩, HR, HB⟩
   case round =>
    clear HK HR HB
    obtain ⟨j, rs, k2, rfl, HJ, HRest, HK, HR, HB⟩ := hrel
    have hj := HJ.out
    have hx1 := bcl_ HB.out HX1.out
    by_cases hcont : ∃ y r2, rs = y :: r2 ∧ spec_l6Sooner.f l0 y x = some true
    ·obtain ⟨y, r2, hr2, hgap⟩ := hcont
     have hjl : j < out.length := by
      have := congrArg List.length (hr2.symm.trans HRest.out)
      simp only [List.length_cons, List.length_drop] at this
      omega
     have d1 : decide ((j : Int) < (out.length : Int)) = true := decide_eq_true (by omega)
     have d1n : decide (j < out.length) = true := decide_eq_true (by omega)
     have q2n := eq_true (show j < out.length by omega)
     have p2 : 0 ≤ (j : Int) := by omega
     have q2 : (j : Int) < (out.length : Int) := by omega
     obtain ⟨ad, ea, hxc⟩ := Kd.at_int (Kd.R_reads' HR.out).2.2 (j : Int) p2 q2
     have hy : rd out (j : Int) = y := by
      have h1 : out.drop j = y :: r2 := by rw [← HRest.out, hr2]
      have h2 : out[j]? = some y := by rw [← List.head?_drop, h1]; rfl
      simp only [rd, Int.toNat_natCast, List.getD_eq_getElem?_getD, h2, Option.getD_some]
     rw [hy, Int.toNat_natCast] at hxc
     cases ea
     have HK2 : Aside0 (spec_l6Due.posR l0 x r2 = some (k2 - 1) ∧ j + 1 + (k2 - 1) = kk) := ⟨by
      have h1 := HK.out.1
      rw [hr2, spec_l6Due.posR, hgap, Option.bind_some, if_pos rfl] at h1
      obtain ⟨z, hz, e⟩ := Option.map_eq_some_iff.mp h1
      have h2 := HK.out.2
      subst e
      exact ⟨hz, by omega⟩⟩
     have HR2 : Aside0 (r2 = out.drop (j + 1)) := ⟨by
      have h1 : out.drop j = y :: r2 := by rw [← HRest.out, hr2]
      rw [← List.drop_drop, h1]; rfl⟩
     obtain ⟨g, hg⟩ : ∃ g : Bool, g = true := ⟨true, rfl⟩
     rw [← hg] at hgap
     have HGAP := Aside0.mk hgap
     have hol : out.length ≤ 1000000 := by have := HO.out; have := HLN.out; have := HL.out; omega
     have hw : wrap64 ((j : Int) + 1) = ((j + 1 : Nat) : Int) := by unfold wrap64; omega
     have hw2 : IntKind.i64.wrap ((j : Int) + 1) = ((j + 1 : Nat) : Int) := (i64_w _).trans hw
     have p2b := eq_true p2
     have q2b := eq_true q2
     have HJ2 := Aside0.mk (show (j + 1) + (gk - 1) = out.length ∧ gk - 1 < gk from by omega)
     clear hj hgap hr2 hy hjl hol
     go_wp2
     go_quiet (first | (go_at_call 40; (with_reducible refine (spec_l6Sooner.calls A0 c0 l0 y x g _ ?side1 ?side2 HGAP.out).mono ?_); (case side1 => exact bC HR0.out HB.out); (case side2 => exact HC0.out); rintro e w' ⟨rfl, ⟨nd, rfl⟩⟩; (try first | exact ⟨rfl, _, World.drewN_drewN _ _ _⟩ | exact ⟨rfl, _, Eq.trans (World.drewN_drewN _ _ _) (congrArg (World.drewN _) (Nat.add_assoc _ _ _))⟩)))
     subst hg
     go_wp2
     go_roundg (gk - 1)
     case measure => exact HJ2.out.2
     case rel => exact ⟨j + 1, r2, k2 - 1, (by simp), ⟨HJ2.out.1⟩, HR2, HK2, ⟨bR HR.out⟩, ⟨bw HB.out⟩⟩
    -- the place is found
    have HJK : Aside0 (j = kk ∧ kk ≤ out.length) := ⟨by
     have h1 := HK.out.1
     have h2 := HK.out.2
     have h3 := HKL.out
     cases rs with
     | nil =>
      simp only [spec_l6Due.posR, Option.some.injEq] at h1
      omega
     | cons y r2 =>
      rw [spec_l6Due.posR] at h1
      obtain ⟨g, hg, h1⟩ := Option.bind_eq_some_iff.mp h1
      have hn : ¬ g = true := fun h => hcont ⟨y, r2, rfl, by rw [hg, h]⟩
      rw [if_neg hn] at h1
      simp only [Option.some.injEq] at h1
      omega⟩
    by_cases hje : j < out.length
    rotate_left
    ·have d1 : decide ((j : Int) < (out.length : Int)) = false := decide_eq_false (by omega)
     have d1n : decide (j < out.length) = false := decide_eq_false (by omega)
     clear hj hje hcont
     go_wp2
     go_quiet (fail)
     go_wp2
     generalize hq_ : World.drewN wr _ = w30
     replace HR := Aside0.mk (Kd.R_at hq_ HR.out)
     replace HB := Aside0.mk (below_at hq_ HB.out)
     clear hq_
     have HCC := Aside0.mk (Kd.R_reads' HR.out).2.1
     obtain ⟨hjk, hkl⟩ := HJK.out
     subst hjk
     have HLEN := Aside0.mk (show (out.take j ++ x :: out.drop j).length = pre.length + 1 from by have := HO.out; simp only [List.length_append, List.length_take, List.length_cons, List.length_drop]; omega)
     have HAP := Aside0.mk (show (out.take j ++ [x]).length + (out.length - j) ≤ 1000001 from by have := HO.out; have := HLN.out; have := HL.out; simp only [List.length_append, List.length_take, List.length_cons, List.length_nil]; omega)
     have hcL := HCC.out
     have hoM : out.length ≤ 1000000 := by have := HO.out; have := HLN.out; have := HL.out; omega
     have s1 := eq_true (show 0 ≤ (j : Int) by omega)
     have s2 := eq_true (show (j : Int) ≤ (out.length : Int) by omega)
     have s3 := eq_true (show (j : Int) ≤ (co : Int) by omega)
     have s4 := eq_true (show j ≤ co by omega)
     have s5 := eq_true (show j ≤ out.length by omega)
     have s6 := eq_true (show out.length ≤ co by omega)
     have s7 := eq_true (show (out.length : Int) ≤ (co : Int) by omega)
     clear HK HJ HRest
     have n0 := Aside0.mk (Kd.R_drew HR.out)
     have n1 := Aside0.mk (below_drew1 HB.out)
     replace HR := n0
     replace HB := n1
     clear n1 n0
     refine start_ (n := 16) (S := fun w' => w'.cell? (ad1.add i.toNat) = some (.int .i64 x)) (ds := []) q33_0 (by kernel_rfl) rfl rfl (bcl_ HB.out HX1.out) (fun hHeld => ?_)
     generalize w30.drew = w25 at HR HB hHeld ⊢
     refine puq_ (i := 1) (N := some 34) rfl rfl (by kernel_rfl) (fun _ _ _ h => h) (Or.inl ⟨by rfl, by intro w'; go_simp; with_reducible rfl⟩) (by simp only [aq_]; rfl) ?_
     refine puq_ (i := 2) (N := some 35) rfl rfl (by kernel_rfl) (fun _ _ _ h => h) (Or.inl ⟨by rfl, by intro w'; go_simp; with_reducible rfl⟩) (by simp only [aq_]; rfl) ?_
     refine puq_ (i := 3) (N := some 36) rfl rfl (by kernel_rfl) (fun _ _ _ h => h) (Or.inl ⟨by rfl, by intro w'; go_simp; with_reducible rfl⟩) (by simp only [aq_]; rfl) ?_
     refine puq_ (i := 5) (N := some 38) rfl rfl (by kernel_rfl) (fun _ _ _ h => h) (Or.inl ⟨by rfl, by intro w'; go_simp; with_reducible rfl⟩) (by simp only [aq_]; rfl) ?_
     refine puq_ (i := 6) (N := some 39) rfl rfl (by kernel_rfl) (fun _ _ _ h => h) (Or.inl ⟨by rfl, by intro w'; go_simp; with_reducible rfl⟩) (by simp only [aq_]; rfl) ?_
     refine puq_ (i := 7) (N := some 40) rfl rfl (by kernel_rfl) (fun _ _ _ h => h) (Or.inl ⟨by rfl, by intro w'; go_simp; with_reducible rfl⟩) (by simp only [aq_]; rfl) ?_
     refine take_ (i := 8) (N := some 41) (v := ?_) (a' := ?_) q33_1 rfl rfl (by kernel_rfl) (fun _ _ _ h => h) (Or.inl ⟨by rfl, ?_⟩) hHeld ?_ ?_
     rotate_left
     ·intro w' s0
      go_simp
      with_reducible rfl
     rotate_left
     ·simp only [aq_]
      rfl
     refine puq_ (i := 11) (N := some 44) rfl rfl (by kernel_rfl) (fun _ _ _ h => h) (Or.inl ⟨by rfl, by intro w'; go_simp; with_reducible rfl⟩) (by simp only [aq_]; rfl) ?_
     refine puq_ (i := 12) (N := some 45) rfl rfl (by kernel_rfl) (fun _ _ _ h => h) (Or.inl ⟨by rfl, by intro w'; go_simp; with_reducible rfl⟩) (by simp only [aq_]; rfl) ?_
     refine puq_ (i := 13) (N := some 46) rfl rfl (by kernel_rfl) (fun _ _ _ h => h) (Or.inl ⟨by rfl, by intro w'; go_simp; with_reducible rfl⟩) (by simp only [aq_]; rfl) ?_
     refine join_ (σ := Value × Value × Value) 3 q33_2 (fun s_ => [(33, s_.1), (37, s_.2.1), (42, s_.2.2)]) (fun s_ w' => Kd.R (Kd.int .i64) 3 w' w.heap.size (fun _ => True) s_.2.1 (out.take j) ∧ Kd.R (Kd.int .i64) 3 w' w.heap.size (fun _ => True) s_.2.2 ([x]) ∧ Kd.R (Kd.int .i64) 3 w' w.heap.size (fun k_ => some k_ ≠ s_.2.1.ownBlock) (.slice Ao out.length co) (out) ∧ Below w.heap.size w w') ?_ ?_
     rotate_left
     ·intro hCont
      refine two_ (i := 0) (j := 9) (Ni := some 33) (Nj := some 42) q33_3 q33_4 rfl rfl rfl rfl (by kernel_rfl) (by decide) (by decide) (fun K hK => ?_) (fun K hK => ?_)
      ·skip
       refine Kd.R_lit_step (Kd.int .i64) _ 3 ?hg (N := 33) ?hd (xs := ([] : List Int)) (inner := []) (ok := fun _ => True) (okp := fun _ => True) ?hr ?hp (fun _ hk => hk) trivial (Below.refl _ _) (Nat.le_refl _) (by simp) ?_
       case hd => rfl
       case hg => rfl
       case hr => first | (go_simp; done) | (go_simp; rfl)
       case hp => exact (Reps.none _ _)
       intro v33 w33 ho4 hb2 hg_ hnew_
       clear hg_ hnew_
       have m0 := Aside0.mk (Kd.R_elder' (bR HR.out) (Kd.R_base ho4) hb2)
       have m1 := Aside0.mk (Kd.R_lower ho4 (below_size (bw HB.out)))
       have m2 := Aside0.mk (below_step (bw HB.out) hb2)
       replace HR := m0
       have HO0 := m1
       replace HB := m2
       clear m1 m2 hb2 ho4 m0
       refine hK.out _ _ (bcl_ HB.out HX1.out) (fun hHeld => ?_)
       clear hK K
       refine norm_ (a' := ?_) ?_ ?_
       rotate_left
       ·show Act.put _ (some 33) _ = _
        simp only [aq_]
        rfl
       refine two_ (i := 4) (j := 9) (Ni := some 37) (Nj := some 42) q33_5 q33_6 rfl rfl rfl rfl (by kernel_rfl) (by decide) (by decide) (fun K hK => ?_) (fun K hK => ?_)
       ·skip
        refine Kd.R_append_rows_step (Kd.int .i64) (w0 := w) w.heap.size (by rfl) (.tmp 33) (.tmp 36) 23 3 (.int .i64 0) 8 rfl Try.underlying23 info3 rfl (by decide) (by omega) v33 ([] : List Int) (out.take j) _ _ _ (fun _ => True) (fun _ => False) rfl rfl ?aO ?aR (fun _ _ h => h) (fun _ h => h.elim) ?aF ?aB ?aS ?aL ?_
        case aO => exact HO0.out
        case aR =>
         have hct := (Kd.R_reads' (Kd.R_take HR.out hkl)).2.2
         rw [List.length_take, Nat.min_eq_left hkl] at hct
         exact hct
        case aF => exact (fun _ _ => trivial)
        case aB => exact bw HB.out
        case aS => exact below_size (bw HB.out)
        case aL => first | omega | (simp only [List.length_take, List.length_cons, List.length_nil]; omega)
        intro v37 w37 ho4 hb2 hg4 hat4
        have m0 := Aside0.mk (Kd.R_after (ok := fun _ => True) (by first | exact HR.out | exact bR HR.out) hg4 hat4)
        have m1 := Aside0.mk ho4
        have m2 := Aside0.mk hb2
        replace HR := m0
        have HO1 := m1
        replace HB := m2
        clear m1 m2 hb2 ho4 hg4 hat4 HO0 m0
        refine hK.out _ _ (bcl_ HB.out HX1.out) (fun hHeld => ?_)
        clear hK K
        refine norm_ (a' := ?_) ?_ ?_
        rotate_left
        ·show Act.put _ (some 37) _ = _
         simp only [aq_]
         rfl
        refine one_ (i := 9) (N := some 42) q33_2 rfl rfl (by kernel_rfl) (by decide) (fun K hK => ?_)
        refine Kd.R_lit_step (Kd.int .i64) _ 3 ?hg (N := 42) ?hd (xs := ([x] : List Int)) (inner := [.int .i64 (x)]) (ok := fun _ => True) (okp := fun _ => True) ?hr ?hp (fun _ hk => hk) trivial (Below.refl _ _) (Nat.le_refl _) (by simp) ?_
        case hd => rfl
        case hg => rfl
        case hr => first | (go_simp; done) | (go_simp; rfl)
        case hp => exact (Reps.one (show Kd.M (Kd.int .i64) _ _ _ (x) [.int .i64 (x)] from rfl) (Reps.none _ _))
        intro v42 w42 ho4 hb2 hg_ hnew_
        clear hg_ hnew_
        have m0 := Aside0.mk (Kd.R_below (bR HR.out) hb2)
        have m4 := Aside0.mk (Kd.R_lower ho4 (below_size (bw HB.out)))
        have m5 := Aside0.mk (Kd.R_below (bR HO1.out) hb2)
        have m2 := Aside0.mk (below_step (bw HB.out) hb2)
        replace HR := m0
        have HOy := m4
        replace HO1 := m5
        replace HB := m2
        clear m2 m4 hb2 ho4 m0 m5
        refine hK.out _ _ (bcl_ HB.out HX1.out) (fun hHeld => ?_)
        clear hK K
        refine norm_ (a' := ?_) ?_ ?_
        rotate_left
        ·show Act.put _ (some 42) _ = _
         simp only [aq_]
         rfl
        exact norm_ (by simp only [putAll, Act.put, List.setIfInBounds_toArray, List.set_cons_zero, List.set_cons_succ]) (hCont (v33, v37, v42) _ ⟨(by first | exact Kd.R_mono HO1.out (fun _ _ => trivial) | exact Kd.R_mono (bR HO1.out) (fun _ _ => trivial)), (by first | exact Kd.R_mono HOy.out (fun _ _ => trivial) | exact Kd.R_mono (bR HOy.out) (fun _ _ => trivial)), (by first | exact Kd.R_mono HR.out (fun _ hk => hk.2) | exact Kd.R_mono (bR HR.out) (fun _ hk => hk.2)), bw HB.out⟩)
       ·skip
        refine Kd.R_lit_step (Kd.int .i64) _ 3 ?hg (N := 42) ?hd (xs := ([x] : List Int)) (inner := [.int .i64 (x)]) (ok := fun _ => True) (okp := fun _ => True) ?hr ?hp (fun _ hk => hk) trivial (Below.refl _ _) (Nat.le_refl _) (by simp) ?_
        case hd => rfl
        case hg => rfl
        case hr => first | (go_simp; done) | (go_simp; rfl)
        case hp => exact (Reps.one (show Kd.M (Kd.int .i64) _ _ _ (x) [.int .i64 (x)] from rfl) (Reps.none _ _))
        intro v42 w42 ho4 hb2 hg_ hnew_
        clear hg_ hnew_
        have m0 := Aside0.mk (Kd.R_below (bR HR.out) hb2)
        have m3 := Aside0.mk (Kd.R_new' ho4 (Kd.R_lt (bR HO0.out)))
        have m4 := Aside0.mk (Kd.R_lower m3.out (below_size (bw HB.out)))
        have m5 := Aside0.mk (Kd.R_below (bR HO0.out) hb2)
        clear m3
        have m2 := Aside0.mk (below_step (bw HB.out) hb2)
        replace HR := m0
        have HOy := m4
        replace HO0 := m5
        replace HB := m2
        clear m2 m4 hb2 ho4 m0 m5
        refine hK.out _ _ (bcl_ HB.out HX1.out) (fun hHeld => ?_)
        clear hK K
        refine norm_ (a' := ?_) ?_ ?_
        rotate_left
        ·show Act.put _ (some 42) _ = _
         simp only [aq_]
         rfl
        refine one_ (i := 4) (N := some 37) q33_2 rfl rfl (by kernel_rfl) (by decide) (fun K hK => ?_)
        refine Kd.R_append_rows_step (Kd.int .i64) (w0 := w) w.heap.size (by rfl) (.tmp 33) (.tmp 36) 23 3 (.int .i64 0) 8 rfl Try.underlying23 info3 rfl (by decide) (by omega) v33 ([] : List Int) (out.take j) _ _ _ (fun _ => True) (fun _ => False) rfl rfl ?aO ?aR (fun _ _ h => h) (fun _ h => h.elim) ?aF ?aB ?aS ?aL ?_
        case aO => exact HO0.out
        case aR =>
         have hct := (Kd.R_reads' (Kd.R_take HR.out hkl)).2.2
         rw [List.length_take, Nat.min_eq_left hkl] at hct
         exact hct
        case aF => exact (fun _ _ => trivial)
        case aB => exact bw HB.out
        case aS => exact below_size (bw HB.out)
        case aL => first | omega | (simp only [List.length_take, List.length_cons, List.length_nil]; omega)
        intro v37 w37 ho4 hb2 hg4 hat4
        have m0 := Aside0.mk (Kd.R_after (ok := fun _ => True) (by first | exact HR.out | exact bR HR.out) hg4 hat4)
        have m3 := Aside0.mk (Kd.R_after (ok := fun _ => True) (by first | exact HOy.out | exact bR HOy.out) hg4 hat4)
        have m1 := Aside0.mk ho4
        have m2 := Aside0.mk hb2
        replace HR := m0
        replace HOy := m3
        have HO1 := m1
        replace HB := m2
        clear m1 m2 hb2 ho4 hg4 hat4 HO0 m0 m3
        refine hK.out _ _ (bcl_ HB.out HX1.out) (fun hHeld => ?_)
        clear hK K
        refine norm_ (a' := ?_) ?_ ?_
        rotate_left
        ·show Act.put _ (some 37) _ = _
         simp only [aq_]
         rfl
        exact norm_ (by simp only [putAll, Act.put, List.setIfInBounds_toArray, List.set_cons_zero, List.set_cons_succ]) (hCont (v33, v37, v42) _ ⟨(by first | exact Kd.R_mono HO1.out (fun _ _ => trivial) | exact Kd.R_mono (bR HO1.out) (fun _ _ => trivial)), (by first | exact Kd.R_mono HOy.out (fun _ _ => trivial) | exact Kd.R_mono (bR HOy.out) (fun _ _ => trivial)), (by first | exact Kd.R_mono HR.out (fun _ hk => hk.2) | exact Kd.R_mono (bR HR.out) (fun _ hk => hk.2)), bw HB.out⟩)
      ·skip
       refine Kd.R_lit_step (Kd.int .i64) _ 3 ?hg (N := 42) ?hd (xs := ([x] : List Int)) (inner := [.int .i64 (x)]) (ok := fun _ => True) (okp := fun _ => True) ?hr ?hp (fun _ hk => hk) trivial (Below.refl _ _) (Nat.le_refl _) (by simp) ?_
       case hd => rfl
       case hg => rfl
       case hr => first | (go_simp; done) | (go_simp; rfl)
       case hp => exact (Reps.one (show Kd.M (Kd.int .i64) _ _ _ (x) [.int .i64 (x)] from rfl) (Reps.none _ _))
       intro v42 w42 ho4 hb2 hg_ hnew_
       clear hg_ hnew_
       have m0 := Aside0.mk (Kd.R_below (bR HR.out) hb2)
       have m4 := Aside0.mk (Kd.R_lower ho4 (below_size (bw HB.out)))
       have m2 := Aside0.mk (below_step (bw HB.out) hb2)
       replace HR := m0
       have HOy := m4
       replace HB := m2
       clear m2 m4 hb2 ho4 m0
       refine hK.out _ _ (bcl_ HB.out HX1.out) (fun hHeld => ?_)
       clear hK K
       refine norm_ (a' := ?_) ?_ ?_
       rotate_left
       ·show Act.put _ (some 42) _ = _
        simp only [aq_]
        rfl
       refine one_ (i := 0) (N := some 33) q33_6 rfl rfl (by kernel_rfl) (by decide) (fun K hK => ?_)
       refine Kd.R_lit_step (Kd.int .i64) _ 3 ?hg (N := 33) ?hd (xs := ([] : List Int)) (inner := []) (ok := fun _ => True) (okp := fun _ => True) ?hr ?hp (fun _ hk => hk) trivial (Below.refl _ _) (Nat.le_refl _) (by simp) ?_
       case hd => rfl
       case hg => rfl
       case hr => first | (go_simp; done) | (go_simp; rfl)
       case hp => exact (Reps.none _ _)
       intro v33 w33 ho4 hb2 hg_ hnew_
       clear hg_ hnew_
       have m0 := Aside0.mk (Kd.R_elder' (bR HR.out) (Kd.R_base ho4) hb2)
       have m3 := Aside0.mk (Kd.R_elder' (bR HOy.out) (Kd.R_base ho4) hb2)
       have m1 := Aside0.mk (Kd.R_lower ho4 (below_size (bw HB.out)))
       have m2 := Aside0.mk (below_step (bw HB.out) hb2)
       replace HR := m0
       replace HOy := m3
       have HO0 := m1
       replace HB := m2
       clear m1 m2 hb2 ho4 m0 m3
       refine hK.out _ _ (bcl_ HB.out HX1.out) (fun hHeld => ?_)
       clear hK K
       refine norm_ (a' := ?_) ?_ ?_
       rotate_left
       ·show Act.put _ (some 33) _ = _
        simp only [aq_]
        rfl
       refine one_ (i := 4) (N := some 37) q33_2 rfl rfl (by kernel_rfl) (by decide) (fun K hK => ?_)
       refine Kd.R_append_rows_step (Kd.int .i64) (w0 := w) w.heap.size (by rfl) (.tmp 33) (.tmp 36) 23 3 (.int .i64 0) 8 rfl Try.underlying23 info3 rfl (by decide) (by omega) v33 ([] : List Int) (out.take j) _ _ _ (fun _ => True) (fun _ => False) rfl rfl ?aO ?aR (fun _ _ h => h) (fun _ h => h.elim) ?aF ?aB ?aS ?aL ?_
       case aO => exact HO0.out
       case aR =>
        have hct := (Kd.R_reads' (Kd.R_take HR.out hkl)).2.2
        rw [List.length_take, Nat.min_eq_left hkl] at hct
        exact hct
       case aF => exact (fun _ _ => trivial)
       case aB => exact bw HB.out
       case aS => exact below_size (bw HB.out)
       case aL => first | omega | (simp only [List.length_take, List.length_cons, List.length_nil]; omega)
       intro v37 w37 ho4 hb2 hg4 hat4
       have m0 := Aside0.mk (Kd.R_after (ok := fun _ => True) (by first | exact HR.out | exact bR HR.out) hg4 hat4)
       have m3 := Aside0.mk (Kd.R_after (ok := fun _ => True) (by first | exact HOy.out | exact bR HOy.out) hg4 hat4)
       have m1 := Aside0.mk ho4
       have m2 := Aside0.mk hb2
       replace HR := m0
       replace HOy := m3
       have HO1 := m1
       replace HB := m2
       clear m1 m2 hb2 ho4 hg4 hat4 HO0 m0 m3
       refine hK.out _ _ (bcl_ HB.out HX1.out) (fun hHeld => ?_)
       clear hK K
       refine norm_ (a' := ?_) ?_ ?_
       rotate_left
       ·show Act.put _ (some 37) _ = _
        simp only [aq_]
        rfl
       exact norm_ (by simp only [putAll, Act.put, List.setIfInBounds_toArray, List.set_cons_zero, List.set_cons_succ]) (hCont (v33, v37, v42) _ ⟨(by first | exact Kd.R_mono HO1.out (fun _ _ => trivial) | exact Kd.R_mono (bR HO1.out) (fun _ _ => trivial)), (by first | exact Kd.R_mono HOy.out (fun _ _ => trivial) | exact Kd.R_mono (bR HOy.out) (fun _ _ => trivial)), (by first | exact Kd.R_mono HR.out (fun _ hk => hk.2) | exact Kd.R_mono (bR HR.out) (fun _ hk => hk.2)), bw HB.out⟩)
     clear HB HR
     rintro ⟨v33, v37, v42⟩ w38 ⟨h35, h37, hR8, hB8⟩
     have HB := Aside0.mk hB8
     obtain ⟨A37, c37, e37⟩ := Kd.R_slice h37
     subst e37
     refine norm_ (a' := ?_) (by simp only [putAll, Act.put, List.setIfInBounds_toArray, List.set_cons_zero, List.set_cons_succ]; rfl) ?_
     refine one_ (i := 10) (N := some 43) q33_7 rfl rfl (by kernel_rfl) (by decide) (fun K hK => ?_)
     refine Kd.R_append_rows_step (Kd.int .i64) (w0 := w) w.heap.size (by rfl) (.tmp 37) (.tmp 42) 23 3 (.int .i64 0) 8 rfl Try.underlying23 info3 rfl (by decide) (by omega) v37 (out.take j) [x] _ _ _ (fun _ => True) (fun _ => False) rfl rfl ?aO ?aR (fun _ _ h => h) (fun _ h => h.elim) ?aF ?aB ?aS ?aL ?_
     case aO => exact h35
     case aR => exact (Kd.R_reads' h37).2.2
     case aF => exact (fun _ _ => trivial)
     case aB => exact hB8
     case aS => exact below_size hB8
     case aL => first | omega | (simp only [List.length_take, List.length_cons, List.length_nil]; omega)
     intro v43 w39 ho38 hb38 hg38 hat38
     have hR9 := Kd.R_after (ok := fun _ => True) (Kd.R_mono hR8 (fun _ hk => ⟨trivial, hk⟩)) hg38 hat38
     replace HB := Aside0.mk hb38
     clear hg38 hat38 h35 h37 hB8 hR8
     refine hK.out _ _ (bcl_ HB.out HX1.out) (fun hHeld => ?_)
     clear hK K
     refine norm_ (a' := ?_) ?_ ?_
     rotate_left
     ·show Act.put _ (some 43) _ = _
      simp only [aq_]
      rfl
     refine one_ (i := 14) (N := some 47) q33_8 rfl rfl (by kernel_rfl) (by decide) (fun K hK => ?_)
     refine Kd.R_append_rows_step (Kd.int .i64) (w0 := w) w.heap.size (by rfl) (.tmp 43) (.tmp 46) 23 3 (.int .i64 0) 8 rfl Try.underlying23 info3 rfl (by decide) (by omega) v43 (out.take j ++ [x]) (out.drop j) _ _ _ (fun _ => True) (fun _ => False) rfl rfl ?aO ?aR (fun _ _ h => h) (fun _ h => h.elim) ?aF ?aB ?aS ?aL ?_
     case aO => exact ho38
     case aR =>
      have hcd := Kd.C_drop (Kd.R_reads' hR9).2.2 hkl hcL
      rw [List.length_drop] at hcd
      simp only [show (Kd.int .i64).sz = 1 from rfl, Nat.mul_one] at hcd
      exact hcd
     case aF => exact (fun _ _ => trivial)
     case aB => exact hb38
     case aS => exact below_size hb38
     case aL => have := HAP.out; first | omega | (simp only [List.length_append, List.length_take, List.length_cons, List.length_nil, List.length_drop] at this ⊢; omega)
     intro v47 w43 ho42 hb42 hg42 hat42
     replace HB := Aside0.mk hb42
     clear hg42 hat42 ho38 hb38 hR9
     refine hK.out _ _ (bcl_ HB.out HX1.out) (fun hHeld => ?_)
     clear hK K
     refine norm_ (a' := ?_) ?_ ?_
     rotate_left
     ·show Act.put _ (some 47) _ = _
      simp only [aq_]
      rfl
     refine puq_ (i := 15) (N := some 5) rfl rfl (by kernel_rfl) (fun _ _ _ h => h) (Or.inl ⟨by rfl, by intro w'; go_simp; with_reducible rfl⟩) (by simp only [aq_]; rfl) ?_
     refine done_ (by kernel_rfl) ?_
     have HR := Aside0.mk ho42
     clear ho42 hb42
     go_wp2
     all_goals (go_roundg kq; (case measure => omega); (case rel => exact ⟨i + 1, pre ++ [x], rest, out.take j ++ x :: out.drop j, (by first | rfl | rw [HW.out]), ⟨by have := HI.out; simp; omega⟩, ⟨by rw [HA.out]; simp⟩, ⟨by have := HN.out; simp at this; omega⟩, ⟨by rw [HLEN.out, List.length_append]; rfl⟩, HS, ⟨by have := HR.out; simpa using this⟩, HB⟩))
    obtain ⟨y, hy, hgap⟩ : ∃ y, out[j]? = some y ∧ spec_l6Sooner.f l0 y x = some false := by
     have h1 := HK.out.1
     have h4 : out[j]? = some out[j] := List.getElem?_eq_getElem hje
     have h5 : rs = out[j] :: out.drop (j + 1) := by rw [HRest.out]; exact List.drop_eq_getElem_cons hje
     rw [h5, spec_l6Due.posR] at h1
     obtain ⟨g, hg, h1⟩ := Option.bind_eq_some_iff.mp h1
     refine ⟨_, h4, ?_⟩
     cases g with
     | false => exact hg
     | true => exact absurd ⟨_, _, h5, hg⟩ hcont
    have d1 : decide ((j : Int) < (out.length : Int)) = true := decide_eq_true (by omega)
    have d1n : decide (j < out.length) = true := decide_eq_true (by omega)
    have q2n := eq_true (show j < out.length by omega)
    have p2 : 0 ≤ (j : Int) := by omega
    have q2 : (j : Int) < (out.length : Int) := by omega
    obtain ⟨ad, ea, hxc⟩ := Kd.at_int (Kd.R_reads' HR.out).2.2 (j : Int) p2 q2
    have hy2 : rd out (j : Int) = y := by simp only [rd, Int.toNat_natCast, List.getD_eq_getElem?_getD, hy, Option.getD_some]
    rw [hy2, Int.toNat_natCast] at hxc
    cases ea
    obtain ⟨g, hg⟩ : ∃ g : Bool, g = false := ⟨false, rfl⟩
    rw [← hg] at hgap
    have HGAP := Aside0.mk hgap
    have p2b := eq_true p2
    have q2b := eq_true q2
    clear hj hgap hy hy2 hje hcont
    go_wp2
    go_quiet (first | (go_at_call 40; (with_reducible refine (spec_l6Sooner.calls A0 c0 l0 y x g _ ?side1 ?side2 HGAP.out).mono ?_); (case side1 => exact bC HR0.out HB.out); (case side2 => exact HC0.out); rintro e w' ⟨rfl, ⟨nd, rfl⟩⟩; (try first | exact ⟨rfl, _, World.drewN_drewN _ _ _⟩ | exact ⟨rfl, _, Eq.trans (World.drewN_drewN _ _ _) (congrArg (World.drewN _) (Nat.add_assoc _ _ _))⟩)))
    subst hg
    go_wp2
    generalize hq_ : World.drewN wr _ = w30
    replace HR := Aside0.mk (Kd.R_at hq_ HR.out)
    replace HB := Aside0.mk (below_at hq_ HB.out)
    clear hq_
    have HCC := Aside0.mk (Kd.R_reads' HR.out).2.1
    obtain ⟨hjk, hkl⟩ := HJK.out
    subst hjk
    have HLEN := Aside0.mk (show (out.take j ++ x :: out.drop j).length = pre.length + 1 from by have := HO.out; simp only [List.length_append, List.length_take, List.length_cons, List.length_drop]; omega)
    have HAP := Aside0.mk (show (out.take j ++ [x]).length + (out.length - j) ≤ 1000001 from by have := HO.out; have := HLN.out; have := HL.out; simp only [List.length_append, List.length_take, List.length_cons, List.length_nil]; omega)
    have hcL := HCC.out
    have hoM : out.length ≤ 1000000 := by have := HO.out; have := HLN.out; have := HL.out; omega
    have s1 := eq_true (show 0 ≤ (j : Int) by omega)
    have s2 := eq_true (show (j : Int) ≤ (out.length : Int) by omega)
    have s3 := eq_true (show (j : Int) ≤ (co : Int) by omega)
    have s4 := eq_true (show j ≤ co by omega)
    have s5 := eq_true (show j ≤ out.length by omega)
    have s6 := eq_true (show out.length ≤ co by omega)
    have s7 := eq_true (show (out.length : Int) ≤ (co : Int) by omega)
    clear HK HJ HRest
    have n0 := Aside0.mk (Kd.R_drew HR.out)
    have n1 := Aside0.mk (below_drew1 HB.out)
    replace HR := n0
    replace HB := n1
    clear n1 n0
    refine start_ (n := 16) (S := fun w' => w'.cell? (ad1.add i.toNat) = some (.int .i64 x)) (ds := []) q33_0 (by kernel_rfl) rfl rfl (bcl_ HB.out HX1.out) (fun hHeld => ?_)
    generalize w30.drew = w25 at HR HB hHeld ⊢
    refine puq_ (i := 1) (N := some 34) rfl rfl (by kernel_rfl) (fun _ _ _ h => h) (Or.inl ⟨by rfl, by intro w'; go_simp; with_reducible rfl⟩) (by simp only [aq_]; rfl) ?_
    refine puq_ (i := 2) (N := some 35) rfl rfl (by kernel_rfl) (fun _ _ _ h => h) (Or.inl ⟨by rfl, by intro w'; go_simp; with_reducible rfl⟩) (by simp only [aq_]; rfl) ?_
    refine puq_ (i := 3) (N := some 36) rfl rfl (by kernel_rfl) (fun _ _ _ h => h) (Or.inl ⟨by rfl, by intro w'; go_simp; with_reducible rfl⟩) (by simp only [aq_]; rfl) ?_
    refine puq_ (i := 5) (N := some 38) rfl rfl (by kernel_rfl) (fun _ _ _ h => h) (Or.inl ⟨by rfl, by intro w'; go_simp; with_reducible rfl⟩) (by simp only [aq_]; rfl) ?_
    refine puq_ (i := 6) (N := some 39) rfl rfl (by kernel_rfl) (fun _ _ _ h => h) (Or.inl ⟨by rfl, by intro w'; go_simp; with_reducible rfl⟩) (by simp only [aq_]; rfl) ?_
    refine puq_ (i := 7) (N := some 40) rfl rfl (by kernel_rfl) (fun _ _ _ h => h) (Or.inl ⟨by rfl, by intro w'; go_simp; with_reducible rfl⟩) (by simp only [aq_]; rfl) ?_
    refine take_ (i := 8) (N := some 41) (v := ?_) (a' := ?_) q33_1 rfl rfl (by kernel_rfl) (fun _ _ _ h => h) (Or.inl ⟨by rfl, ?_⟩) hHeld ?_ ?_
    rotate_left
    ·intro w' s0
     go_simp
     with_reducible rfl
    rotate_left
    ·simp only [aq_]
     rfl
    refine puq_ (i := 11) (N := some 44) rfl rfl (by kernel_rfl) (fun _ _ _ h => h) (Or.inl ⟨by rfl, by intro w'; go_simp; with_reducible rfl⟩) (by simp only [aq_]; rfl) ?_
    refine puq_ (i := 12) (N := some 45) rfl rfl (by kernel_rfl) (fun _ _ _ h => h) (Or.inl ⟨by rfl, by intro w'; go_simp; with_reducible rfl⟩) (by simp only [aq_]; rfl) ?_
    refine puq_ (i := 13) (N := some 46) rfl rfl (by kernel_rfl) (fun _ _ _ h => h) (Or.inl ⟨by rfl, by intro w'; go_simp; with_reducible rfl⟩) (by simp only [aq_]; rfl) ?_
    refine join_ (σ := Value × Value × Value) 3 q33_2 (fun s_ => [(33, s_.1), (37, s_.2.1), (42, s_.2.2)]) (fun s_ w' => Kd.R (Kd.int .i64) 3 w' w.heap.size (fun _ => True) s_.2.1 (out.take j) ∧ Kd.R (Kd.int .i64) 3 w' w.heap.size (fun _ => True) s_.2.2 ([x]) ∧ Kd.R (Kd.int .i64) 3 w' w.heap.size (fun k_ => some k_ ≠ s_.2.1.ownBlock) (.slice (some ad) out.length co) (out) ∧ Below w.heap.size w w') ?_ ?_
    rotate_left
    ·intro hCont
     refine two_ (i := 0) (j := 9) (Ni := some 33) (Nj := some 42) q33_3 q33_4 rfl rfl rfl rfl (by kernel_rfl) (by decide) (by decide) (fun K hK => ?_) (fun K hK => ?_)
     ·skip
      refine Kd.R_lit_step (Kd.int .i64) _ 3 ?hg (N := 33) ?hd (xs := ([] : List Int)) (inner := []) (ok := fun _ => True) (okp := fun _ => True) ?hr ?hp (fun _ hk => hk) trivial (Below.refl _ _) (Nat.le_refl _) (by simp) ?_
      case hd => rfl
      case hg => rfl
      case hr => first | (go_simp; done) | (go_simp; rfl)
      case hp => exact (Reps.none _ _)
      intro v33 w33 ho4 hb2 hg_ hnew_
      clear hg_ hnew_
      have m0 := Aside0.mk (Kd.R_elder' (bR HR.out) (Kd.R_base ho4) hb2)
      have m1 := Aside0.mk (Kd.R_lower ho4 (below_size (bw HB.out)))
      have m2 := Aside0.mk (below_step (bw HB.out) hb2)
      replace HR := m0
      have HO0 := m1
      replace HB := m2
      clear m1 m2 hb2 ho4 m0
      refine hK.out _ _ (bcl_ HB.out HX1.out) (fun hHeld => ?_)
      clear hK K
      refine norm_ (a' := ?_) ?_ ?_
      rotate_left
      ·show Act.put _ (some 33) _ = _
       simp only [aq_]
       rfl
      refine two_ (i := 4) (j := 9) (Ni := some 37) (Nj := some 42) q33_5 q33_6 rfl rfl rfl rfl (by kernel_rfl) (by decide) (by decide) (fun K hK => ?_) (fun K hK => ?_)
      ·skip
       refine Kd.R_append_rows_step (Kd.int .i64) (w0 := w) w.heap.size (by rfl) (.tmp 33) (.tmp 36) 23 3 (.int .i64 0) 8 rfl Try.underlying23 info3 rfl (by decide) (by omega) v33 ([] : List Int) (out.take j) _ _ _ (fun _ => True) (fun _ => False) rfl rfl ?aO ?aR (fun _ _ h => h) (fun _ h => h.elim) ?aF ?aB ?aS ?aL ?_
       case aO => exact HO0.out
       case aR =>
        have hct := (Kd.R_reads' (Kd.R_take HR.out hkl)).2.2
        rw [List.length_take, Nat.min_eq_left hkl] at hct
        exact hct
       case aF => exact (fun _ _ => trivial)
       case aB => exact bw HB.out
       case aS => exact below_size (bw HB.out)
       case aL => first | omega | (simp only [List.length_take, List.length_cons, List.length_nil]; omega)
       intro v37 w37 ho4 hb2 hg4 hat4
       have m0 := Aside0.mk (Kd.R_after (ok := fun _ => True) (by first | exact HR.out | exact bR HR.out) hg4 hat4)
       have m1 := Aside0.mk ho4
       have m2 := Aside0.mk hb2
       replace HR := m0
       have HO1 := m1
       replace HB := m2
       clear m1 m2 hb2 ho4 hg4 hat4 HO0 m0
       refine hK.out _ _ (bcl_ HB.out HX1.out) (fun hHeld => ?_)
       clear hK K
       refine norm_ (a' := ?_) ?_ ?_
       rotate_left
       ·show Act.put _ (some 37) _ = _
        simp only [aq_]
        rfl
       refine one_ (i := 9) (N := some 42) q33_2 rfl rfl (by kernel_rfl) (by decide) (fun K hK => ?_)
       refine Kd.R_lit_step (Kd.int .i64) _ 3 ?hg (N := 42) ?hd (xs := ([x] : List Int)) (inner := [.int .i64 (x)]) (ok := fun _ => True) (okp := fun _ => True) ?hr ?hp (fun _ hk => hk) trivial (Below.refl _ _) (Nat.le_refl _) (by simp) ?_
       case hd => rfl
       case hg => rfl
       case hr => first | (go_simp; done) | (go_simp; rfl)
       case hp => exact (Reps.one (show Kd.M (Kd.int .i64) _ _ _ (x) [.int .i64 (x)] from rfl) (Reps.none _ _))
       intro v42 w42 ho4 hb2 hg_ hnew_
       clear hg_ hnew_
       have m0 := Aside0.mk (Kd.R_below (bR HR.out) hb2)
       have m4 := Aside0.mk (Kd.R_lower ho4 (below_size (bw HB.out)))
       have m5 := Aside0.mk (Kd.R_below (bR HO1.out) hb2)
       have m2 := Aside0.mk (below_step (bw HB.out) hb2)
       replace HR := m0
       have HOy := m4
       replace HO1 := m5
       replace HB := m2
       clear m2 m4 hb2 ho4 m0 m5
       refine hK.out _ _ (bcl_ HB.out HX1.out) (fun hHeld => ?_)
       clear hK K
       refine norm_ (a' := ?_) ?_ ?_
       rotate_left
       ·show Act.put _ (some 42) _ = _
        simp only [aq_]
        rfl
       exact norm_ (by simp only [putAll, Act.put, List.setIfInBounds_toArray, List.set_cons_zero, List.set_cons_succ]) (hCont (v33, v37, v42) _ ⟨(by first | exact Kd.R_mono HO1.out (fun _ _ => trivial) | exact Kd.R_mono (bR HO1.out) (fun _ _ => trivial)), (by first | exact Kd.R_mono HOy.out (fun _ _ => trivial) | exact Kd.R_mono (bR HOy.out) (fun _ _ => trivial)), (by first | exact Kd.R_mono HR.out (fun _ hk => hk.2) | exact Kd.R_mono (bR HR.out) (fun _ hk => hk.2)), bw HB.out⟩)
      ·skip
       refine Kd.R_lit_step (Kd.int .i64) _ 3 ?hg (N := 42) ?hd (xs := ([x] : List Int)) (inner := [.int .i64 (x)]) (ok := fun _ => True) (okp := fun _ => True) ?hr ?hp (fun _ hk => hk) trivial (Below.refl _ _) (Nat.le_refl _) (by simp) ?_
       case hd => rfl
       case hg => rfl
       case hr => first | (go_simp; done) | (go_simp; rfl)
       case hp => exact (Reps.one (show Kd.M (Kd.int .i64) _ _ _ (x) [.int .i64 (x)] from rfl) (Reps.none _ _))
       intro v42 w42 ho4 hb2 hg_ hnew_
       clear hg_ hnew_
       have m0 := Aside0.mk (Kd.R_below (bR HR.out) hb2)
       have m3 := Aside0.mk (Kd.R_new' ho4 (Kd.R_lt (bR HO0.out)))
       have m4 := Aside0.mk (Kd.R_lower m3.out (below_size (bw HB.out)))
       have m5 := Aside0.mk (Kd.R_below (bR HO0.out) hb2)
       clear m3
       have m2 := Aside0.mk (below_step (bw HB.out) hb2)
       replace HR := m0
       have HOy := m4
       replace HO0 := m5
       replace HB := m2
       clear m2 m4 hb2 ho4 m0 m5
       refine hK.out _ _ (bcl_ HB.out HX1.out) (fun hHeld => ?_)
       clear hK K
       refine norm_ (a' := ?_) ?_ ?_
       rotate_left
       ·show Act.put _ (some 42) _ = _
        simp only [aq_]
        rfl
       refine one_ (i := 4) (N := some 37) q33_2 rfl rfl (by kernel_rfl) (by decide) (fun K hK => ?_)
       refine Kd.R_append_rows_step (Kd.int .i64) (w0 := w) w.heap.size (by rfl) (.tmp 33) (.tmp 36) 23 3 (.int .i64 0) 8 rfl Try.underlying23 info3 rfl (by decide) (by omega) v33 ([] : List Int) (out.take j) _ _ _ (fun _ => True) (fun _ => False) rfl rfl ?aO ?aR (fun _ _ h => h) (fun _ h => h.elim) ?aF ?aB ?aS ?aL ?_
       case aO => exact HO0.out
       case aR =>
        have hct := (Kd.R_reads' (Kd.R_take HR.out hkl)).2.2
        rw [List.length_take, Nat.min_eq_left hkl] at hct
        exact hct
       case aF => exact (fun _ _ => trivial)
       case aB => exact bw HB.out
       case aS => exact below_size (bw HB.out)
       case aL => first | omega | (simp only [List.length_take, List.length_cons, List.length_nil]; omega)
       intro v37 w37 ho4 hb2 hg4 hat4
       have m0 := Aside0.mk (Kd.R_after (ok := fun _ => True) (by first | exact HR.out | exact bR HR.out) hg4 hat4)
       have m3 := Aside0.mk (Kd.R_after (ok := fun _ => True) (by first | exact HOy.out | exact bR HOy.out) hg4 hat4)
       have m1 := Aside0.mk ho4
       have m2 := Aside0.mk hb2
       replace HR := m0
       replace HOy := m3
       have HO1 := m1
       replace HB := m2
       clear m1 m2 hb2 ho4 hg4 hat4 HO0 m0 m3
       refine hK.out _ _ (bcl_ HB.out HX1.out) (fun hHeld => ?_)
       clear hK K
       refine norm_ (a' := ?_) ?_ ?_
       rotate_left
       ·show Act.put _ (some 37) _ = _
        simp only [aq_]
        rfl
       exact norm_ (by simp only [putAll, Act.put, List.setIfInBounds_toArray, List.set_cons_zero, List.set_cons_succ]) (hCont (v33, v37, v42) _ ⟨(by first | exact Kd.R_mono HO1.out (fun _ _ => trivial) | exact Kd.R_mono (bR HO1.out) (fun _ _ => trivial)), (by first | exact Kd.R_mono HOy.out (fun _ _ => trivial) | exact Kd.R_mono (bR HOy.out) (fun _ _ => trivial)), (by first | exact Kd.R_mono HR.out (fun _ hk => hk.2) | exact Kd.R_mono (bR HR.out) (fun _ hk => hk.2)), bw HB.out⟩)
     ·skip
      refine Kd.R_lit_step (Kd.int .i64) _ 3 ?hg (N := 42) ?hd (xs := ([x] : List Int)) (inner := [.int .i64 (x)]) (ok := fun _ => True) (okp := fun _ => True) ?hr ?hp (fun _ hk => hk) trivial (Below.refl _ _) (Nat.le_refl _) (by simp) ?_
      case hd => rfl
      case hg => rfl
      case hr => first | (go_simp; done) | (go_simp; rfl)
      case hp => exact (Reps.one (show Kd.M (Kd.int .i64) _ _ _ (x) [.int .i64 (x)] from rfl) (Reps.none _ _))
      intro v42 w42 ho4 hb2 hg_ hnew_
      clear hg_ hnew_
      have m0 := Aside0.mk (Kd.R_below (bR HR.out) hb2)
      have m4 := Aside0.mk (Kd.R_lower ho4 (below_size (bw HB.out)))
      have m2 := Aside0.mk (below_step (bw HB.out) hb2)
      replace HR := m0
      have HOy := m4
      replace HB := m2
      clear m2 m4 hb2 ho4 m0
      refine hK.out _ _ (bcl_ HB.out HX1.out) (fun hHeld => ?_)
      clear hK K
      refine norm_ (a' := ?_) ?_ ?_
      rotate_left
      ·show Act.put _ (some 42) _ = _
       simp only [aq_]
       rfl
      refine one_ (i := 0) (N := some 33) q33_6 rfl rfl (by kernel_rfl) (by decide) (fun K hK => ?_)
      refine Kd.R_lit_step (Kd.int .i64) _ 3 ?hg (N := 33) ?hd (xs := ([] : List Int)) (inner := []) (ok := fun _ => True) (okp := fun _ => True) ?hr ?hp (fun _ hk => hk) trivial (Below.refl _ _) (Nat.le_refl _) (by simp) ?_
      case hd => rfl
      case hg => rfl
      case hr => first | (go_simp; done) | (go_simp; rfl)
      case hp => exact (Reps.none _ _)
      intro v33 w33 ho4 hb2 hg_ hnew_
      clear hg_ hnew_
      have m0 := Aside0.mk (Kd.R_elder' (bR HR.out) (Kd.R_base ho4) hb2)
      have m3 := Aside0.mk (Kd.R_elder' (bR HOy.out) (Kd.R_base ho4) hb2)
      have m1 := Aside0.mk (Kd.R_lower ho4 (below_size (bw HB.out)))
      have m2 := Aside0.mk (below_step (bw HB.out) hb2)
      replace HR := m0
      replace HOy := m3
      have HO0 := m1
      replace HB := m2
      clear m1 m2 hb2 ho4 m0 m3
      refine hK.out _ _ (bcl_ HB.out HX1.out) (fun hHeld => ?_)
      clear hK K
      refine norm_ (a' := ?_) ?_ ?_
      rotate_left
      ·show Act.put _ (some 33) _ = _
       simp only [aq_]
       rfl
      refine one_ (i := 4) (N := some 37) q33_2 rfl rfl (by kernel_rfl) (by decide) (fun K hK => ?_)
      refine Kd.R_append_rows_step (Kd.int .i64) (w0 := w) w.heap.size (by rfl) (.tmp 33) (.tmp 36) 23 3 (.int .i64 0) 8 rfl Try.underlying23 info3 rfl (by decide) (by omega) v33 ([] : List Int) (out.take j) _ _ _ (fun _ => True) (fun _ => False) rfl rfl ?aO ?aR (fun _ _ h => h) (fun _ h => h.elim) ?aF ?aB ?aS ?aL ?_
      case aO => exact HO0.out
      case aR =>
       have hct := (Kd.R_reads' (Kd.R_take HR.out hkl)).2.2
       rw [List.length_take, Nat.min_eq_left hkl] at hct
       exact hct
      case aF => exact (fun _ _ => trivial)
      case aB => exact bw HB.out
      case aS => exact below_size (bw HB.out)
      case aL => first | omega | (simp only [List.length_take, List.length_cons, List.length_nil]; omega)
      intro v37 w37 ho4 hb2 hg4 hat4
      have m0 := Aside0.mk (Kd.R_after (ok := fun _ => True) (by first | exact HR.out | exact bR HR.out) hg4 hat4)
      have m3 := Aside0.mk (Kd.R_after (ok := fun _ => True) (by first | exact HOy.out | exact bR HOy.out) hg4 hat4)
      have m1 := Aside0.mk ho4
      have m2 := Aside0.mk hb2
      replace HR := m0
      replace HOy := m3
      have HO1 := m1
      replace HB := m2
      clear m1 m2 hb2 ho4 hg4 hat4 HO0 m0 m3
      refine hK.out _ _ (bcl_ HB.out HX1.out) (fun hHeld => ?_)
      clear hK K
      refine norm_ (a' := ?_) ?_ ?_
      rotate_left
      ·show Act.put _ (some 37) _ = _
       simp only [aq_]
       rfl
      exact norm_ (by simp only [putAll, Act.put, List.setIfInBounds_toArray, List.set_cons_zero, List.set_cons_succ]) (hCont (v33, v37, v42) _ ⟨(by first | exact Kd.R_mono HO1.out (fun _ _ => trivial) | exact Kd.R_mono (bR HO1.out) (fun _ _ => trivial)), (by first | exact Kd.R_mono HOy.out (fun _ _ => trivial) | exact Kd.R_mono (bR HOy.out) (fun _ _ => trivial)), (by first | exact Kd.R_mono HR.out (fun _ hk => hk.2) | exact Kd.R_mono (bR HR.out) (fun _ hk => hk.2)), bw HB.out⟩)
    clear HB HR
    rintro ⟨v33, v37, v42⟩ w38 ⟨h35, h37, hR8, hB8⟩
    have HB := Aside0.mk hB8
    obtain ⟨A37, c37, e37⟩ := Kd.R_slice h37
    subst e37
    refine norm_ (a' := ?_) (by simp only [putAll, Act.put, List.setIfInBounds_toArray, List.set_cons_zero, List.set_cons_succ]; rfl) ?_
    refine one_ (i := 10) (N := some 43) q33_7 rfl rfl (by kernel_rfl) (by decide) (fun K hK => ?_)
    refine Kd.R_append_rows_step (Kd.int .i64) (w0 := w) w.heap.size (by rfl) (.tmp 37) (.tmp 42) 23 3 (.int .i64 0) 8 rfl Try.underlying23 info3 rfl (by decide) (by omega) v37 (out.take j) [x] _ _ _ (fun _ => True) (fun _ => False) rfl rfl ?aO ?aR (fun _ _ h => h) (fun _ h => h.elim) ?aF ?aB ?aS ?aL ?_
    case aO => exact h35
    case aR => exact (Kd.R_reads' h37).2.2
    case aF => exact (fun _ _ => trivial)
    case aB => exact hB8
    case aS => exact below_size hB8
    case aL => first | omega | (simp only [List.length_take, List.length_cons, List.length_nil]; omega)
    intro v43 w39 ho38 hb38 hg38 hat38
    have hR9 := Kd.R_after (ok := fun _ => True) (Kd.R_mono hR8 (fun _ hk => ⟨trivial, hk⟩)) hg38 hat38
    replace HB := Aside0.mk hb38
    clear hg38 hat38 h35 h37 hB8 hR8
    refine hK.out _ _ (bcl_ HB.out HX1.out) (fun hHeld => ?_)
    clear hK K
    refine norm_ (a' := ?_) ?_ ?_
    rotate_left
    ·show Act.put _ (some 43) _ = _
     simp only [aq_]
     rfl
    refine one_ (i := 14) (N := some 47) q33_8 rfl rfl (by kernel_rfl) (by decide) (fun K hK => ?_)
    refine Kd.R_append_rows_step (Kd.int .i64) (w0 := w) w.heap.size (by rfl) (.tmp 43) (.tmp 46) 23 3 (.int .i64 0) 8 rfl Try.underlying23 info3 rfl (by decide) (by omega) v43 (out.take j ++ [x]) (out.drop j) _ _ _ (fun _ => True) (fun _ => False) rfl rfl ?aO ?aR (fun _ _ h => h) (fun _ h => h.elim) ?aF ?aB ?aS ?aL ?_
    case aO => exact ho38
    case aR =>
     have hcd := Kd.C_drop (Kd.R_reads' hR9).2.2 hkl hcL
     rw [List.length_drop] at hcd
     simp only [show (Kd.int .i64).sz = 1 from rfl, Nat.mul_one] at hcd
     exact hcd
    case aF => exact (fun _ _ => trivial)
    case aB => exact hb38
    case aS => exact below_size hb38
    case aL => have := HAP.out; first | omega | (simp only [List.length_append, List.length_take, List.length_cons, List.length_nil, List.length_drop] at this ⊢; omega)
    intro v47 w43 ho42 hb42 hg42 hat42
    replace HB := Aside0.mk hb42
    clear hg42 hat42 ho38 hb38 hR9
    refine hK.out _ _ (bcl_ HB.out HX1.out) (fun hHeld => ?_)
    clear hK K
    refine norm_ (a' := ?_) ?_ ?_
    rotate_left
    ·show Act.put _ (some 47) _ = _
     simp only [aq_]
     rfl
    refine puq_ (i := 15) (N := some 5) rfl rfl (by kernel_rfl) (fun _ _ _ h => h) (Or.inl ⟨by rfl, by intro w'; go_simp; with_reducible rfl⟩) (by simp only [aq_]; rfl) ?_
    refine done_ (by kernel_rfl) ?_
    have HR := Aside0.mk ho42
    clear ho42 hb42
    go_wp2
    all_goals (go_roundg kq; (case measure => omega); (case rel => exact ⟨i + 1, pre ++ [x], rest, out.take j ++ x :: out.drop j, (by first | rfl | rw [HW.out]), ⟨by have := HI.out; simp; omega⟩, ⟨by rw [HA.out]; simp⟩, ⟨by have := HN.out; simp at this; omega⟩, ⟨by rw [HLEN.out, List.length_append]; rfl⟩, HS, ⟨by have := HR.out; simpa using this⟩, HB⟩))

/-! ### spec_l6Timely: function 26 -/
def spec_l6Timely.l0 : Nat → List (S37) → List Int → Int → Int → Option (Bool)
 | 0, _, _, _, _ => none
 | k + 1, x0, x5, x6, x7 => if x7 < (x5.length : Int) then (if 0 ≤ x7 then (if 0 ≤ (rd x5 x7) then (if (rd x5 x7) < (x0.length : Int) then (if (wrap64 (x6 + ((rd_T37 x0 (rd x5 x7)).f0))) > ((rd_T37 x0 (rd x5 x7)).f3) then (some false) else (spec_l6Timely.l0 k x0 x5 (wrap64 (x6 + ((rd_T37 x0 (rd x5 x7)).f0))) (wrap64 (x7 + 1)))) else (none)) else (none)) else (none)) else (some true)
def spec_l6Timely.f (k : Nat) (l0 : List (S37)) (l1 : List Int) : Option (Bool) := (spec_l6Due.f l0 l1).bind fun t126 => (spec_l6Timely.l0 k l0 t126 0 0)
theorem spec_l6Timely.mono_l : ∀ k, (∀ y0 y1 y2 y3, LeO (spec_l6Timely.l0 k y0 y1 y2 y3) (spec_l6Timely.l0 (k + 1) y0 y1 y2 y3))
 | 0 => fun _ _ _ _ r h => by simp [spec_l6Timely.l0] at h
 | k + 1 => by
  have ih0 := spec_l6Timely.mono_l k
  ·intro y0 y1 y2 y3
   unfold spec_l6Timely.l0
   repeat' first
   | (with_reducible exact ih0 _ _ _ _)
   | (with_reducible exact LeO.refl _)
   | (with_reducible exact LeO.none _)
   | (with_reducible refine LeO.ite ?_ ?_)
   | (with_reducible refine LeO.bind ?_ (fun _ => ?_))
   | exact ih0 _ _ _ _
   | exact LeO.none _
   | refine LeO.ite ?_ ?_
   | refine LeO.bind ?_ (fun _ => ?_)
theorem spec_l6Timely.mono : ∀ a0 a1 k, LeO (spec_l6Timely.f k a0 a1) (spec_l6Timely.f (k + 1) a0 a1) := by
 intro a0 a1 k
 have ih0 := spec_l6Timely.mono_l k
 unfold spec_l6Timely.f
 repeat' first
   | (with_reducible exact ih0 _ _ _ _)
   | (with_reducible exact LeO.refl _)
   | (with_reducible exact LeO.none _)
   | (with_reducible refine LeO.ite ?_ ?_)
   | (with_reducible refine LeO.bind ?_ (fun _ => ?_))
   | exact ih0 _ _ _ _
   | exact LeO.none _
   | refine LeO.ite ?_ ?_
   | refine LeO.bind ?_ (fun _ => ?_)
set_option maxHeartbeats 8000000 in
set_option maxRecDepth 100000 in
theorem spec_l6Timely.calls (k : Nat) (A0 : Option Addr) (c0 : Nat) (l0 : List (S37)) (A1 : Option Addr) (c1 : Nat) (l1 : List Int) (r : Bool) (w : World) (hr0 : Kd.C k37 w A0 l0.length l0) (hc0 : l0.length ≤ c0) (hr1 : Kd.C (Kd.int .i64) w A1 l1.length l1) (hc1 : l1.length ≤ c1) (h : spec_l6Timely.f k l0 l1 = some r) :
  Calls Try.prog 26 #[.slice A0 l0.length c0, .slice A1 l1.length c1] w fun e w' => e = .returned (.bool r) ∧ Below w.heap.size w w' := by
 have HR0 := Aside0.mk hr0
 have HC0 := Aside0.mk hc0
 clear hr0 hc0
 have HR1 := Aside0.mk hr1
 have HC1 := Aside0.mk hc1
 clear hr1 hc1
 have HB := Aside0.mk (Below.refl w.heap.size w)
 have H : ((spec_l6Due.f l0 l1).bind fun t126 => (spec_l6Timely.l0 k l0 t126 0 0)) = some r := h
 clear h
 replace H := Option.bind_eq_some_iff.mp H
 obtain ⟨t126, A30, H⟩ := H
 replace H : (spec_l6Timely.l0 k l0 t126 0 0) = some r := H
 have A3 := Aside0.mk A30
 clear A30
 have H' := Aside0.mk H
 clear H
 go_enter Try.func26, Try.ntmps26
 go_wp2_with (first | ((with_reducible refine gate_callee (f := 33) rfl ?_); refine goesL_ (some 10) rfl rfl Try.func33 (by kernel_rfl) rfl #[.slice A0 l0.length c0, .slice A1 l1.length c1] rfl (by (try simp only [mA_]); first | done | rfl | (simp only [List.length_drop, List.length_take]; rfl)) ?_; (with_reducible refine (spec_l6Due.calls _ _ l0 _ _ l1 t126 _ ?side1 ?side2 ?side3 ?side4 A3.out).mono ?_); (case side1 => repeat (first | exact HR0.out | (with_reducible refine Kd.C_alloc ?_ _) | (with_reducible refine Kd.C_drewN ?_ _) | (with_reducible refine Kd.C_drew ?_))); (case side2 => exact HC0.out); (case side3 => repeat (first | exact HR1.out | (with_reducible refine Kd.C_alloc ?_ _) | (with_reducible refine Kd.C_drewN ?_ _) | (with_reducible refine Kd.C_drew ?_))); (case side4 => exact HC1.out); rintro e w4 ⟨v127, rfl, ho0, hb⟩; refine ⟨_, rfl, ?_⟩; have n0_ := Aside0.mk (Kd.R_lower ho0 (below_size (bw HB.out))); have n1_ := Aside0.mk (below_step (bw HB.out) hb); have HO128 := n0_; replace HB := n1_; clear n0_ n1_; (try clear hb); (try clear hb2); (try clear hk); (try clear hi); (try clear ho0)))
 go_loopg [6, 7] k (fun kq v6 v7 w' => ∃ (x6_1 : Int) (x7_1 : Int), v6 = .int .i64 x6_1 ∧ v7 = .int .i64 x7_1 ∧ Aside0 (spec_l6Timely.l0 kq l0 t126 x6_1 x7_1 = some r) ∧ Aside0 (kq ≤ k) ∧ Aside0 (Kd.R (Kd.int .i64) 3 w' w.heap.size (fun _ => True) v127 t126) ∧ Aside0 (Below w.heap.size w w'))
 case atStart => exact ⟨(0), (0), (by first | rfl | (simp; done) | (simp [*]; done)), (by first | rfl | (simp; done) | (simp [*]; done)), H', ⟨Nat.le_refl _⟩, ⟨bR HO128.out⟩, ⟨bw HB.out⟩⟩
 case round =>
  clear H'
  try clear c1
  try clear c2
  try clear p2
  try clear c3
  obtain ⟨x6_1, x7_1, rfl, rfl, HA, HK1, HO_5, HB⟩ := hrel
  cases gk with
  | zero => exact absurd HA.out (by simp [spec_l6Timely.l0])
  | succ k1 =>
   have H := HA.out
   clear HA
   simp only [spec_l6Timely.l0] at H
   by_cases c5 : x7_1 < (t126.length : Int)
   rotate_left
   ·rw [if_neg c5] at H
    have c5b0 : decide (x7_1 < (t126.length : Int)) = false := decide_eq_false c5
    clear c5
    obtain rfl := Option.some.inj H
    obtain ⟨Ao12, co12, eo12⟩ := Kd.R_slice HO_5.out
    subst eo12
    go_wp2
    go_ret
    exact ⟨by first | rfl | (simp [errW_none, errW_some] <;> rfl) | (simp [*, errW_none, errW_some] <;> rfl), bw HB.out⟩
   rw [if_pos c5] at H
   have c5b0 : decide (x7_1 < (t126.length : Int)) = true := decide_eq_true c5
   clear c5
   by_cases c6 : 0 ≤ x7_1
   rotate_left
   ·rw [if_neg c6] at H
    exact absurd H (by simp)
   rw [if_pos c6] at H
   have c6b0 : decide (0 ≤ x7_1) = true := decide_eq_true c6
   clear c6
   by_cases c7 : 0 ≤ (rd t126 x7_1)
   rotate_left
   ·rw [if_neg c7] at H
    exact absurd H (by simp)
   rw [if_pos c7] at H
   have c7b0 : decide (0 ≤ (rd t126 x7_1)) = true := decide_eq_true c7
   clear c7
   by_cases c8 : (rd t126 x7_1) < (l0.length : Int)
   rotate_left
   ·rw [if_neg c8] at H
    exact absurd H (by simp)
   rw [if_pos c8] at H
   have c8b0 : decide ((rd t126 x7_1) < (l0.length : Int)) = true := decide_eq_true c8
   clear c8
   by_cases c9 : (wrap64 (x6_1 + ((rd_T37 l0 (rd t126 x7_1)).f0))) > ((rd_T37 l0 (rd t126 x7_1)).f3)
   ·rw [if_pos c9] at H
    have c9b0 : decide (((rd_T37 l0 (rd t126 x7_1)).f3) < (wrap64 (x6_1 + ((rd_T37 l0 (rd t126 x7_1)).f0)))) = true := decide_eq_true c9
    clear c9
    obtain rfl := Option.some.inj H
    obtain ⟨Ao10, co10, eo10⟩ := Kd.R_slice HO_5.out
    subst eo10
    have p129 : 0 ≤ (x7_1 : Int) := of_decide_eq_true (by first | (with_reducible assumption) | assumption)
    have q129 : x7_1 < (t126.length : Int) := of_decide_eq_true (by first | (with_reducible assumption) | assumption)
    obtain ⟨ad129, e129, hx129_0⟩ := Kd.at_int (Kd.R_reads' HO_5.out).2.2 x7_1 p129 q129
    cases e129
    replace p129 := eq_true p129
    replace q129 := eq_true q129
    have p130 : 0 ≤ ((rd t126 x7_1) : Int) := of_decide_eq_true (by first | (with_reducible assumption) | assumption)
    have q130 : (rd t126 x7_1) < (l0.length : Int) := of_decide_eq_true (by first | (with_reducible assumption) | assumption)
    obtain ⟨ad130, e130, hx130_0, hx130_1, hx130_2, hx130_3⟩ := at_T37 HR0.out (rd t126 x7_1) p130 q130
    cases e130
    replace hx130_0 := (HB.out.cell (World.block_lt_of_cell? w _ hx130_0)).trans hx130_0
    replace hx130_1 := (HB.out.cell (World.block_lt_of_cell? w _ hx130_1)).trans hx130_1
    replace hx130_2 := (HB.out.cell (World.block_lt_of_cell? w _ hx130_2)).trans hx130_2
    replace hx130_3 := (HB.out.cell (World.block_lt_of_cell? w _ hx130_3)).trans hx130_3
    replace p130 := eq_true p130
    replace q130 := eq_true q130
    have p131 : 0 ≤ (x7_1 : Int) := of_decide_eq_true (by first | (with_reducible assumption) | assumption)
    have q131 : x7_1 < (t126.length : Int) := of_decide_eq_true (by first | (with_reducible assumption) | assumption)
    obtain ⟨ad131, e131, hx131_0⟩ := Kd.at_int (Kd.R_reads' HO_5.out).2.2 x7_1 p131 q131
    obtain rfl : ad129 = ad131 := (by injection e131)
    replace p131 := eq_true p131
    replace q131 := eq_true q131
    have p132 : 0 ≤ ((rd t126 x7_1) : Int) := of_decide_eq_true (by first | (with_reducible assumption) | assumption)
    have q132 : (rd t126 x7_1) < (l0.length : Int) := of_decide_eq_true (by first | (with_reducible assumption) | assumption)
    obtain ⟨ad132, e132, hx132_0, hx132_1, hx132_2, hx132_3⟩ := at_T37 HR0.out (rd t126 x7_1) p132 q132
    obtain rfl : ad130 = ad132 := (by injection e132)
    replace hx132_0 := (HB.out.cell (World.block_lt_of_cell? w _ hx132_0)).trans hx132_0
    replace hx132_1 := (HB.out.cell (World.block_lt_of_cell? w _ hx132_1)).trans hx132_1
    replace hx132_2 := (HB.out.cell (World.block_lt_of_cell? w _ hx132_2)).trans hx132_2
    replace hx132_3 := (HB.out.cell (World.block_lt_of_cell? w _ hx132_3)).trans hx132_3
    replace p132 := eq_true p132
    replace q132 := eq_true q132
    go_wp2
    go_ret
    exact ⟨by first | rfl | (simp [errW_none, errW_some] <;> rfl) | (simp [*, errW_none, errW_some] <;> rfl), bw HB.out⟩
   rw [if_neg c9] at H
   have c9b0 : decide (((rd_T37 l0 (rd t126 x7_1)).f3) < (wrap64 (x6_1 + ((rd_T37 l0 (rd t126 x7_1)).f0)))) = false := decide_eq_false c9
   clear c9
   have H' := Aside0.mk H
   clear H
   obtain ⟨Ao11, co11, eo11⟩ := Kd.R_slice HO_5.out
   subst eo11
   have p129 : 0 ≤ (x7_1 : Int) := of_decide_eq_true (by first | (with_reducible assumption) | assumption)
   have q129 : x7_1 < (t126.length : Int) := of_decide_eq_true (by first | (with_reducible assumption) | assumption)
   obtain ⟨ad129, e129, hx129_0⟩ := Kd.at_int (Kd.R_reads' HO_5.out).2.2 x7_1 p129 q129
   cases e129
   replace p129 := eq_true p129
   replace q129 := eq_true q129
   have p130 : 0 ≤ ((rd t126 x7_1) : Int) := of_decide_eq_true (by first | (with_reducible assumption) | assumption)
   have q130 : (rd t126 x7_1) < (l0.length : Int) := of_decide_eq_true (by first | (with_reducible assumption) | assumption)
   obtain ⟨ad130, e130, hx130_0, hx130_1, hx130_2, hx130_3⟩ := at_T37 HR0.out (rd t126 x7_1) p130 q130
   cases e130
   replace hx130_0 := (HB.out.cell (World.block_lt_of_cell? w _ hx130_0)).trans hx130_0
   replace hx130_1 := (HB.out.cell (World.block_lt_of_cell? w _ hx130_1)).trans hx130_1
   replace hx130_2 := (HB.out.cell (World.block_lt_of_cell? w _ hx130_2)).trans hx130_2
   replace hx130_3 := (HB.out.cell (World.block_lt_of_cell? w _ hx130_3)).trans hx130_3
   replace p130 := eq_true p130
   replace q130 := eq_true q130
   have p131 : 0 ≤ (x7_1 : Int) := of_decide_eq_true (by first | (with_reducible assumption) | assumption)
   have q131 : x7_1 < (t126.length : Int) := of_decide_eq_true (by first | (with_reducible assumption) | assumption)
   obtain ⟨ad131, e131, hx131_0⟩ := Kd.at_int (Kd.R_reads' HO_5.out).2.2 x7_1 p131 q131
   obtain rfl : ad129 = ad131 := (by injection e131)
   replace p131 := eq_true p131
   replace q131 := eq_true q131
   have p132 : 0 ≤ ((rd t126 x7_1) : Int) := of_decide_eq_true (by first | (with_reducible assumption) | assumption)
   have q132 : (rd t126 x7_1) < (l0.length : Int) := of_decide_eq_true (by first | (with_reducible assumption) | assumption)
   obtain ⟨ad132, e132, hx132_0, hx132_1, hx132_2, hx132_3⟩ := at_T37 HR0.out (rd t126 x7_1) p132 q132
   obtain rfl : ad130 = ad132 := (by injection e132)
   replace hx132_0 := (HB.out.cell (World.block_lt_of_cell? w _ hx132_0)).trans hx132_0
   replace hx132_1 := (HB.out.cell (World.block_lt_of_cell? w _ hx132_1)).trans hx132_1
   replace hx132_2 := (HB.out.cell (World.block_lt_of_cell? w _ hx132_2)).trans hx132_2
   replace hx132_3 := (HB.out.cell (World.block_lt_of_cell? w _ hx132_3)).trans hx132_3
   replace p132 := eq_true p132
   replace q132 := eq_true q132
   go_wp2
   go_roundg k1
   case measure => have := HK1.out; omega
   case rel => exact ⟨(wrap64 (x6_1 + ((rd_T37 l0 (rd t126 x7_1)).f0))), (wrap64 (x7_1 + 1)), (by first | rfl | (simp; done) | (simp [*]; done)), (by first | rfl | (simp; done) | (simp [*]; done)), H', ⟨by have := HK1.out; omega⟩, ⟨bR HO_5.out⟩, ⟨bw HB.out⟩⟩

/-! ### spec_l10Free: function 14 -/
def spec_l10Free.f (k : Nat) (l0 : List (S37)) (l1 : List Int) : Option (Bool) := (spec_l10Unit.f k l0).bind fun t133 => (if t133 = true then ((spec_l6Set.f k l0 l1).bind fun t134 => (if t134 = true then ((spec_l6Timely.f k l0 l1).bind fun t135 => (some t135)) else (some false))) else (some false))
theorem spec_l10Free.mono : ∀ a0 a1 k, LeO (spec_l10Free.f k a0 a1) (spec_l10Free.f (k + 1) a0 a1) := by
 intro a0 a1 k
 unfold spec_l10Free.f
 repeat' first
   | (with_reducible exact spec_l10Unit.mono _ _)
   | (with_reducible exact spec_l6Set.mono _ _ _)
   | (with_reducible exact spec_l6Timely.mono _ _ _)
   | (with_reducible exact LeO.refl _)
   | (with_reducible exact LeO.none _)
   | (with_reducible refine LeO.ite ?_ ?_)
   | (with_reducible refine LeO.bind ?_ (fun _ => ?_))
   | exact spec_l10Unit.mono _ _
   | exact spec_l6Set.mono _ _ _
   | exact spec_l6Timely.mono _ _ _
   | exact LeO.none _
   | refine LeO.ite ?_ ?_
   | refine LeO.bind ?_ (fun _ => ?_)
set_option maxHeartbeats 8000000 in
set_option maxRecDepth 100000 in
theorem spec_l10Free.calls (k : Nat) (A0 : Option Addr) (c0 : Nat) (l0 : List (S37)) (A1 : Option Addr) (c1 : Nat) (l1 : List Int) (r : Bool) (w : World) (hr0 : Kd.C k37 w A0 l0.length l0) (hc0 : l0.length ≤ c0) (hr1 : Kd.C (Kd.int .i64) w A1 l1.length l1) (hc1 : l1.length ≤ c1) (h : spec_l10Free.f k l0 l1 = some r) :
  Calls Try.prog 14 #[.slice A0 l0.length c0, .slice A1 l1.length c1] w fun e w' => e = .returned (.bool r) ∧ Below w.heap.size w w' := by
 have HR0 := Aside0.mk hr0
 have HC0 := Aside0.mk hc0
 clear hr0 hc0
 have HR1 := Aside0.mk hr1
 have HC1 := Aside0.mk hc1
 clear hr1 hc1
 have HB := Aside0.mk (Below.refl w.heap.size w)
 have H : ((spec_l10Unit.f k l0).bind fun t133 => (if t133 = true then ((spec_l6Set.f k l0 l1).bind fun t134 => (if t134 = true then ((spec_l6Timely.f k l0 l1).bind fun t135 => (some t135)) else (some false))) else (some false))) = some r := h
 clear h
 replace H := Option.bind_eq_some_iff.mp H
 obtain ⟨t133, A30, H⟩ := H
 replace H : (if t133 = true then ((spec_l6Set.f k l0 l1).bind fun t134 => (if t134 = true then ((spec_l6Timely.f k l0 l1).bind fun t135 => (some t135)) else (some false))) else (some false)) = some r := H
 have A3 := Aside0.mk A30
 clear A30
 by_cases c4 : t133 = true
 rotate_left
 ·replace c4 := Bool.eq_false_iff.mpr c4
  subst c4
  have H1 : (some false) = some r := by rw [if_neg (show ¬ (false = true) by decide)] at H; exact H
  clear H
  have H := H1
  clear H1
  obtain rfl := Option.some.inj H
  go_enter Try.func14, Try.ntmps14
  go_wp2_with (first | ((with_reducible refine gate_callee (f := 24) rfl ?_); refine goesL_ (some 6) rfl rfl Try.func24 (by kernel_rfl) rfl #[.slice A0 l0.length c0] rfl (by (try simp only [mA_]); first | done | rfl | (simp only [List.length_drop, List.length_take]; rfl)) ?_; (with_reducible refine (spec_l10Unit.calls k _ _ l0 false _ ?side1 ?side2 A3.out).mono ?_); (case side1 => repeat (first | exact HR0.out | (with_reducible refine Kd.C_alloc ?_ _) | (with_reducible refine Kd.C_drewN ?_ _) | (with_reducible refine Kd.C_drew ?_))); (case side2 => exact HC0.out); rintro e w11 ⟨rfl, hb⟩; refine ⟨_, rfl, ?_⟩; have n0_ := Aside0.mk (below_step (bw HB.out) hb); replace HB := n0_; clear n0_; (try clear hb); (try clear hb2); (try clear hk); (try clear hi)))
  go_ret
  exact ⟨by first | rfl | (simp [errW_none, errW_some] <;> rfl) | (simp [*, errW_none, errW_some] <;> rfl), bw HB.out⟩
 subst c4
 have H1 : ((spec_l6Set.f k l0 l1).bind fun t134 => (if t134 = true then ((spec_l6Timely.f k l0 l1).bind fun t135 => (some t135)) else (some false))) = some r := by rw [if_pos rfl] at H; exact H
 clear H
 have H := H1
 clear H1
 replace H := Option.bind_eq_some_iff.mp H
 obtain ⟨t134, A50, H⟩ := H
 replace H : (if t134 = true then ((spec_l6Timely.f k l0 l1).bind fun t135 => (some t135)) else (some false)) = some r := H
 have A5 := Aside0.mk A50
 clear A50
 by_cases c6 : t134 = true
 rotate_left
 ·replace c6 := Bool.eq_false_iff.mpr c6
  subst c6
  have H1 : (some false) = some r := by rw [if_neg (show ¬ (false = true) by decide)] at H; exact H
  clear H
  have H := H1
  clear H1
  obtain rfl := Option.some.inj H
  go_enter Try.func14, Try.ntmps14
  go_wp2_with (first | ((with_reducible refine gate_callee (f := 24) rfl ?_); refine goesL_ (some 6) rfl rfl Try.func24 (by kernel_rfl) rfl #[.slice A0 l0.length c0] rfl (by (try simp only [mA_]); first | done | rfl | (simp only [List.length_drop, List.length_take]; rfl)) ?_; (with_reducible refine (spec_l10Unit.calls k _ _ l0 true _ ?side1 ?side2 A3.out).mono ?_); (case side1 => repeat (first | exact HR0.out | (with_reducible refine Kd.C_alloc ?_ _) | (with_reducible refine Kd.C_drewN ?_ _) | (with_reducible refine Kd.C_drew ?_))); (case side2 => exact HC0.out); rintro e w10 ⟨rfl, hb⟩; refine ⟨_, rfl, ?_⟩; have n0_ := Aside0.mk (below_step (bw HB.out) hb); replace HB := n0_; clear n0_; (try clear hb); (try clear hb2); (try clear hk); (try clear hi)) | (go_at_call 25; (with_reducible refine (spec_l6Set.calls k _ _ l0 _ _ l1 false _ ?side1 ?side2 ?side3 ?side4 A5.out).mono ?_); (case side1 => first | exact bC HR0.out HB.out | exact Kd.C_below HR0.out HB.out); (case side2 => exact HC0.out); (case side3 => first | exact bC HR1.out HB.out | exact Kd.C_below HR1.out HB.out); (case side4 => exact HC1.out); rintro e w' ⟨rfl, ⟨nd, rfl⟩⟩))
  go_ret
  exact ⟨by first | rfl | (simp [errW_none, errW_some] <;> rfl) | (simp [*, errW_none, errW_some] <;> rfl), bw HB.out⟩
 subst c6
 have H1 : ((spec_l6Timely.f k l0 l1).bind fun t135 => (some t135)) = some r := by rw [if_pos rfl] at H; exact H
 clear H
 have H := H1
 clear H1
 replace H := Option.bind_eq_some_iff.mp H
 obtain ⟨t135, A70, H⟩ := H
 replace H : (some t135) = some r := H
 have A7 := Aside0.mk A70
 clear A70
 obtain rfl := Option.some.inj H
 go_enter Try.func14, Try.ntmps14
 go_wp2_with (first | ((with_reducible refine gate_callee (f := 24) rfl ?_); refine goesL_ (some 6) rfl rfl Try.func24 (by kernel_rfl) rfl #[.slice A0 l0.length c0] rfl (by (try simp only [mA_]); first | done | rfl | (simp only [List.length_drop, List.length_take]; rfl)) ?_; (with_reducible refine (spec_l10Unit.calls k _ _ l0 true _ ?side1 ?side2 A3.out).mono ?_); (case side1 => repeat (first | exact HR0.out | (with_reducible refine Kd.C_alloc ?_ _) | (with_reducible refine Kd.C_drewN ?_ _) | (with_reducible refine Kd.C_drew ?_))); (case side2 => exact HC0.out); rintro e w8 ⟨rfl, hb⟩; refine ⟨_, rfl, ?_⟩; have n0_ := Aside0.mk (below_step (bw HB.out) hb); replace HB := n0_; clear n0_; (try clear hb); (try clear hb2); (try clear hk); (try clear hi)) | (go_at_call 25; (with_reducible refine (spec_l6Set.calls k _ _ l0 _ _ l1 true _ ?side1 ?side2 ?side3 ?side4 A5.out).mono ?_); (case side1 => first | exact bC HR0.out HB.out | exact Kd.C_below HR0.out HB.out); (case side2 => exact HC0.out); (case side3 => first | exact bC HR1.out HB.out | exact Kd.C_below HR1.out HB.out); (case side4 => exact HC1.out); rintro e w' ⟨rfl, ⟨nd, rfl⟩⟩) | (go_at_call 26; (with_reducible refine (spec_l6Timely.calls k _ _ l0 _ _ l1 t135 _ ?side1 ?side2 ?side3 ?side4 A7.out).mono ?_); (case side1 => repeat (first | exact (Kd.C_below HR0.out (bw HB.out)) | (with_reducible refine Kd.C_alloc ?_ _) | (with_reducible refine Kd.C_drewN ?_ _) | (with_reducible refine Kd.C_drew ?_))); (case side2 => exact HC0.out); (case side3 => repeat (first | exact (Kd.C_below HR1.out (bw HB.out)) | (with_reducible refine Kd.C_alloc ?_ _) | (with_reducible refine Kd.C_drewN ?_ _) | (with_reducible refine Kd.C_drew ?_))); (case side4 => exact HC1.out); rintro e w9 ⟨rfl, hb⟩; have n0_ := Aside0.mk (below_step (bw HB.out) hb); replace HB := n0_; clear n0_; (try clear hb); (try clear hb2); (try clear hk); (try clear hi)))
 go_ret
 exact ⟨by first | rfl | (simp [errW_none, errW_some] <;> rfl) | (simp [*, errW_none, errW_some] <;> rfl), bw HB.out⟩

/-! ### spec_l1Least: function 15 -/
def spec_l1Least.f (a0 : Int) (a1 : Int) : Option (Int) := if a0 < a1 then (some a0) else (some a1)
set_option maxHeartbeats 8000000 in
set_option maxRecDepth 100000 in
theorem spec_l1Least.calls (a0 : Int) (a1 : Int) (r : Int) (w : World) (h : spec_l1Least.f a0 a1 = some r) :
  Calls Try.prog 15 #[.int .i64 a0, .int .i64 a1] w fun e w' => e = .returned (.int .i64 r) ∧ Drawn0 w w' := by
 have H : (if a0 < a1 then (some a0) else (some a1)) = some r := h
 clear h
 by_cases c3 : a0 < a1
 ·rw [if_pos c3] at H
  have c3b0 : decide (a0 < a1) = true := decide_eq_true c3
  clear c3
  obtain rfl := Option.some.inj H
  go_enter Try.func15, Try.ntmps15
  go_wp2
  go_ret
  exact ⟨by first | rfl | (simp; done) | (simp [*]; done), by repeat (first | exact Drawn0.refl _ | apply Drawn0.step)⟩
 rw [if_neg c3] at H
 have c3b0 : decide (a0 < a1) = false := decide_eq_false c3
 clear c3
 obtain rfl := Option.some.inj H
 go_enter Try.func15, Try.ntmps15
 go_wp2
 go_ret
 exact ⟨by first | rfl | (simp; done) | (simp [*]; done), by repeat (first | exact Drawn0.refl _ | apply Drawn0.step)⟩

/-! ### spec_UnitSlots: function 5 -/
abbrev q5_0 : Array Bool := ⟨rl_ [7] false⟩
abbrev q5_1 : Array Bool := ⟨rl_ [7] true⟩
abbrev q5_2 : Array Bool := ⟨rl_ [3, 4] true⟩
abbrev q5_3 : Array Bool := ⟨rl_ [1, 3, 3] false⟩
abbrev q5_4 : Array Bool := ⟨rl_ [6, 1] true⟩
abbrev q5_5 : Array Bool := ⟨rl_ [4, 3] true⟩
abbrev q5_6 : Array Bool := ⟨rl_ [23] false⟩
abbrev q5_7 : Array Bool := ⟨rl_ [10, 13] true⟩
abbrev q5_8 : Array Bool := ⟨rl_ [13, 10] true⟩
abbrev q5_9 : Array Bool := ⟨rl_ [18, 5] true⟩
abbrev q5_10 : Array Bool := ⟨rl_ [21, 2] true⟩
abbrev q5_11 : Array Bool := ⟨rl_ [16] false⟩
abbrev q5_12 : Array Bool := ⟨rl_ [1, 3, 1, 4, 7] false⟩
abbrev q5_13 : Array Bool := ⟨rl_ [10, 1, 3, 2] true⟩
abbrev q5_14 : Array Bool := ⟨rl_ [4, 1, 4, 2, 3, 2] true⟩
abbrev q5_15 : Array Bool := ⟨rl_ [1, 3, 1, 5, 1, 3, 2] false⟩
abbrev q5_16 : Array Bool := ⟨rl_ [9, 2, 3, 2] true⟩
abbrev q5_17 : Array Bool := ⟨rl_ [4, 1, 5, 1, 3, 2] true⟩
abbrev q5_18 : Array Bool := ⟨rl_ [14, 2] true⟩
abbrev q5_19 : Array Bool := ⟨rl_ [15, 1] true⟩
/-- How many of a row a number stands behind. -/
def spec_UnitSlots.posN (l0 : List (S37)) (x : Int) : List Int → Nat
 | [] => 0
 | y :: r => if (rd_T37 l0 y).f3 ≤ (rd_T37 l0 x).f3 then spec_UnitSlots.posN l0 x r + 1 else 0
theorem spec_UnitSlots.posN_le (l0 : List (S37)) (x : Int) : ∀ r : List Int, spec_UnitSlots.posN l0 x r ≤ r.length
 | [] => Nat.le_refl _
 | y :: r => by
  rw [spec_UnitSlots.posN]
  have := spec_UnitSlots.posN_le l0 x r
  split
  ·simp; omega
  ·simp
def spec_UnitSlots.go (l0 : List (S37)) : List Int → List Int → List Int
 | [], out => out
 | x :: r, out => spec_UnitSlots.go l0 r (out.take (spec_UnitSlots.posN l0 x out) ++ x :: out.drop (spec_UnitSlots.posN l0 x out))
/-- The ends, from the last one on. -/
def spec_UnitSlots.back (l0 : List (S37)) : List Int → Int → List Int → Option (List Int)
 | [], _, E => some E
 | y :: r, t, E => (spec_l1Least.f (wrap64 (t - 1)) (rd_T37 l0 y).f3).bind fun n => spec_UnitSlots.back l0 r n (E.set y.toNat n)
def spec_UnitSlots.f (k : Nat) (l0 : List (S37)) (l1 : List Int) : Option (List Int × Bool) := (spec_l10Free.f k l0 l1).bind fun g => if g = true then (if l1.length ≤ 1000 ∧ l0.length ≤ 1000 ∧ (∀ x ∈ l1, 0 ≤ x ∧ x < (l0.length : Int)) then (spec_UnitSlots.back l0 (spec_UnitSlots.go l0 l1 []).reverse 501 (List.replicate l0.length 0)).bind fun E => some (l1.map (fun x => rd E x), true) else none) else some ([], false)
theorem spec_UnitSlots.mono : ∀ l0 l1 k, LeO (spec_UnitSlots.f k l0 l1) (spec_UnitSlots.f (k + 1) l0 l1) := fun l0 l1 k => LeO.bind (spec_l10Free.mono _ _ k) (fun _ => LeO.refl _)
set_option maxHeartbeats 8000000 in
set_option maxRecDepth 100000 in
theorem spec_UnitSlots.calls (k : Nat) (A0 : Option Addr) (c0 : Nat) (l0 : List (S37)) (A1 : Option Addr) (c1 : Nat) (l1 : List Int) (r1 : List Int) (r2 : Bool) (w : World) (hr0 : Kd.C k37 w A0 l0.length l0) (hc0 : l0.length ≤ c0) (hr1 : Kd.C (Kd.int .i64) w A1 l1.length l1) (hc1 : l1.length ≤ c1) (h : spec_UnitSlots.f k l0 l1 = some (r1, r2)) :
  Calls Try.prog 5 #[.slice A0 l0.length c0, .slice A1 l1.length c1] w fun e w' => ∃ v0_ : Value, e = .returned (.tuple #[v0_, .bool r2]) ∧ Kd.R (Kd.int .i64) 3 w' w.heap.size (fun _ => True) v0_ r1 ∧ Below w.heap.size w w' := by
 replace h := Option.bind_eq_some_iff.mp h
 obtain ⟨g, hg, h⟩ := h
 have HR0 := Aside0.mk hr0
 have HC0 := Aside0.mk hc0
 have HR1 := Aside0.mk hr1
 have HC1 := Aside0.mk hc1
 have HG := Aside0.mk hg
 have HB := Aside0.mk (Below.refl w.heap.size w)
 clear hr0 hc0 hr1 hc1 hg
 go_enter Try.func5, Try.ntmps5
 cases g with
 | false =>
  obtain ⟨e1, e2⟩ := Prod.mk.inj (Option.some.inj (show some (([] : List Int), false) = some (r1, r2) from h))
  subst e1 e2
  clear h
  go_wp2_with (first | ((with_reducible refine gate_callee (f := 14) rfl ?_); refine goesL_ (some 16) rfl rfl Try.func14 (by kernel_rfl) rfl #[.slice A0 l0.length c0, .slice A1 l1.length c1] rfl (by (try simp only [mA_]); first | done | rfl) ?_; (with_reducible refine (spec_l10Free.calls k A0 c0 l0 A1 c1 l1 _ _ ?s1 HC0.out ?s2 HC1.out HG.out).mono ?_); (case s1 => exact bC HR0.out HB.out); (case s2 => exact bC HR1.out HB.out); rintro e w9 ⟨rfl, hb⟩; refine ⟨_, rfl, ?_⟩; have m7 := Aside0.mk (below_step (bw HB.out) hb); replace HB := m7; clear m7 hb HG) | ((with_reducible refine gate_dst (N := 18) rfl ?_); refine Kd.R_lit (Kd.int .i64) _ 3 ?hg (N := 18) ?hd (xs := ([] : List Int)) (inner := []) (ok := fun _ => True) (okp := fun _ => True) ?hr ?hp (fun _ hk => hk) trivial (Below.refl _ _) (Nat.le_refl _) (by simp) ?_; (case hd => rfl); (case hg => rfl); (case hr => first | (go_simp; done) | (go_simp; rfl)); (case hp => exact (Reps.none _ _)); intro v18 w18 ho hb hg_ hnew_; clear hg_ hnew_; have n0_ := Aside0.mk (Kd.R_lower ho (below_size (bw HB.out))); have n1_ := Aside0.mk (below_step (bw HB.out) hb); have HRL := n0_; replace HB := n1_; clear n0_ n1_ ho hb))
  go_ret2
  exact ⟨_, rfl, HRL.out, HB.out⟩
 | true =>
  replace h : (if l1.length ≤ 1000 ∧ l0.length ≤ 1000 ∧ (∀ x ∈ l1, 0 ≤ x ∧ x < (l0.length : Int)) then (spec_UnitSlots.back l0 (spec_UnitSlots.go l0 l1 []).reverse 501 (List.replicate l0.length 0)).bind fun E => some (l1.map (fun x => rd E x), true) else none) = some (r1, r2) := h
  split at h
  case isFalse => cases h
  case isTrue hn =>
  obtain ⟨E, hE, h⟩ := Option.bind_eq_some_iff.mp h
  obtain ⟨e1, e2⟩ := Prod.mk.inj (Option.some.inj h)
  subst e2
  have HN1 := Aside0.mk hn.1
  have HN := Aside0.mk hn.2.1
  have HRG := Aside0.mk hn.2.2
  have HBK := Aside0.mk hE
  have HRES := Aside0.mk e1
  clear h hn hE e1
  go_wp2_with ((with_reducible refine gate_callee (f := 14) rfl ?_); refine goesL_ (some 16) rfl rfl Try.func14 (by kernel_rfl) rfl #[.slice A0 l0.length c0, .slice A1 l1.length c1] rfl (by (try simp only [mA_]); first | done | rfl) ?_; (with_reducible refine (spec_l10Free.calls k A0 c0 l0 A1 c1 l1 _ _ ?s1 HC0.out ?s2 HC1.out HG.out).mono ?_); (case s1 => exact bC HR0.out HB.out); (case s2 => exact bC HR1.out HB.out); rintro e w9 ⟨rfl, hb⟩; refine ⟨_, rfl, ?_⟩; have m7 := Aside0.mk (below_step (bw HB.out) hb); replace HB := m7; clear m7 hb HG)
  have n1 := Aside0.mk (below_drew1 HB.out)
  replace HB := n1
  clear n1
  refine start_ (n := 7) (S := fun _ => True) (ds := []) q5_0 (by kernel_rfl) rfl rfl trivial (fun hHeld => ?_)
  generalize w9.drew = w25 at HB hHeld ⊢
  refine puq_ (i := 1) (N := some 20) rfl rfl (by kernel_rfl) (fun _ _ _ h => h) (Or.inl ⟨by rfl, by intro w'; go_simp; with_reducible rfl⟩) (by simp only [aq_]; rfl) ?_
  refine puq_ (i := 2) (N := some 21) rfl rfl (by kernel_rfl) (fun _ _ _ h => h) (Or.inl ⟨by rfl, by intro w'; go_simp; with_reducible rfl⟩) (by simp only [aq_]; rfl) ?_
  refine join_ (σ := Value × Value) 0 q5_1 (fun s_ => [(19, s_.1), (6, s_.1), (7, .int .i64 501), (22, s_.2), (8, s_.2)]) (fun s_ w' => Kd.R (Kd.int .i64) 3 w' w.heap.size (fun _ => True) s_.1 ([] : List Int) ∧ Kd.R (Kd.int .i64) 3 w' w.heap.size (fun _ => True) s_.2 (List.replicate l0.length (0 : Int)) ∧ Below w.heap.size w w') ?_ ?_
  rotate_left
  ·intro hCont
   refine two_ (i := 0) (j := 3) (Ni := some 19) (Nj := some 22) q5_2 q5_3 rfl rfl rfl rfl (by kernel_rfl) (by decide) (by decide) (fun K hK => ?_) (fun K hK => ?_)
   ·skip
    refine Kd.R_lit_step (Kd.int .i64) _ 3 ?hg (N := 19) ?hd (xs := ([] : List Int)) (inner := []) (ok := fun _ => True) (okp := fun _ => True) ?hr ?hp (fun _ hk => hk) trivial (Below.refl _ _) (Nat.le_refl _) (by simp) ?_
    case hd => rfl
    case hg => rfl
    case hr => first | (go_simp; done) | (go_simp; rfl)
    case hp => exact (Reps.none _ _)
    intro v19 w19 ho hb hg_ hnew_
    clear hg_ hnew_
    have m1 := Aside0.mk (Kd.R_lower ho (below_size (bw HB.out)))
    have m2 := Aside0.mk (below_step (bw HB.out) hb)
    have HO0 := m1
    replace HB := m2
    clear m1 m2 hb ho
    refine hK.out _ _ trivial (fun hHeld => ?_)
    clear hK K
    refine norm_ (a' := ?_) ?_ ?_
    rotate_left
    ·show Act.put _ (some 19) _ = _
     simp only [aq_]
     rfl
    refine puq_ (i := 4) (N := some 6) rfl rfl (by kernel_rfl) (fun _ _ _ h => h) (Or.inl ⟨by rfl, by intro w'; go_simp; with_reducible rfl⟩) (by simp only [aq_]; rfl) ?_
    refine puq_ (i := 5) (N := some 7) rfl rfl (by kernel_rfl) (fun _ _ _ h => h) (Or.inl ⟨by rfl, by intro w'; go_simp; with_reducible rfl⟩) (by simp only [aq_]; rfl) ?_
    refine one_ (i := 3) (N := some 22) q5_4 rfl rfl (by kernel_rfl) (by decide) (fun K hK => ?_)
    refine Kd.R_make_step (Kd.int .i64) _ 3 ?hg (N := 22) ?hd 23 (.tmp 21) (.tmp 21) rfl (l0.length : Int) rfl rfl Try.underlying23 (.int .i64 0) 8 info3 rfl (by decide) (by omega) 0 (ok := fun _ => True) (okp := fun _ => True) rfl (fun _ hk => hk) trivial (by omega) (by have := HN.out; rw [Int.toNat_natCast]; omega) (Below.refl _ _) (Nat.le_refl _) ?_
    case hd => rfl
    case hg => rfl
    intro v22 w22 ho hb hg_ hnew_
    clear hg_ hnew_
    rw [Int.toNat_natCast] at ho
    have m0 := Aside0.mk (Kd.R_below (bR HO0.out) hb)
    have m1 := Aside0.mk (Kd.R_lower ho (below_size (bw HB.out)))
    have m2 := Aside0.mk (below_step (bw HB.out) hb)
    replace HO0 := m0
    have HE := m1
    replace HB := m2
    clear m0 m1 m2 hb ho
    refine hK.out _ _ trivial (fun hHeld => ?_)
    clear hK K
    refine norm_ (a' := ?_) ?_ ?_
    rotate_left
    ·show Act.put _ (some 22) _ = _
     simp only [aq_]
     rfl
    refine puq_ (i := 6) (N := some 8) rfl rfl (by kernel_rfl) (fun _ _ _ h => h) (Or.inl ⟨by rfl, by intro w'; go_simp; with_reducible rfl⟩) (by simp only [aq_]; rfl) ?_
    exact norm_ (by simp only [putAll, Act.put, List.setIfInBounds_toArray, List.set_cons_zero, List.set_cons_succ]) (hCont (v19, v22) _ ⟨bR HO0.out, bR HE.out, bw HB.out⟩)
   ·skip
    refine Kd.R_make_step (Kd.int .i64) _ 3 ?hg (N := 22) ?hd 23 (.tmp 21) (.tmp 21) rfl (l0.length : Int) rfl rfl Try.underlying23 (.int .i64 0) 8 info3 rfl (by decide) (by omega) 0 (ok := fun _ => True) (okp := fun _ => True) rfl (fun _ hk => hk) trivial (by omega) (by have := HN.out; rw [Int.toNat_natCast]; omega) (Below.refl _ _) (Nat.le_refl _) ?_
    case hd => rfl
    case hg => rfl
    intro v22 w22 ho hb hg_ hnew_
    clear hg_ hnew_
    rw [Int.toNat_natCast] at ho
    have m1 := Aside0.mk (Kd.R_lower ho (below_size (bw HB.out)))
    have m2 := Aside0.mk (below_step (bw HB.out) hb)
    have HE := m1
    replace HB := m2
    clear m1 m2 hb ho
    refine hK.out _ _ trivial (fun hHeld => ?_)
    clear hK K
    refine norm_ (a' := ?_) ?_ ?_
    rotate_left
    ·show Act.put _ (some 22) _ = _
     simp only [aq_]
     rfl
    refine one_ (i := 0) (N := some 19) q5_5 rfl rfl (by kernel_rfl) (by decide) (fun K hK => ?_)
    refine Kd.R_lit_step (Kd.int .i64) _ 3 ?hg (N := 19) ?hd (xs := ([] : List Int)) (inner := []) (ok := fun _ => True) (okp := fun _ => True) ?hr ?hp (fun _ hk => hk) trivial (Below.refl _ _) (Nat.le_refl _) (by simp) ?_
    case hd => rfl
    case hg => rfl
    case hr => first | (go_simp; done) | (go_simp; rfl)
    case hp => exact (Reps.none _ _)
    intro v19 w19 ho hb hg_ hnew_
    clear hg_ hnew_
    have m0 := Aside0.mk (Kd.R_below (bR HE.out) hb)
    have m1 := Aside0.mk (Kd.R_lower ho (below_size (bw HB.out)))
    have m2 := Aside0.mk (below_step (bw HB.out) hb)
    replace HE := m0
    have HO0 := m1
    replace HB := m2
    clear m0 m1 m2 hb ho
    refine hK.out _ _ trivial (fun hHeld => ?_)
    clear hK K
    refine norm_ (a' := ?_) ?_ ?_
    rotate_left
    ·show Act.put _ (some 19) _ = _
     simp only [aq_]
     rfl
    refine puq_ (i := 4) (N := some 6) rfl rfl (by kernel_rfl) (fun _ _ _ h => h) (Or.inl ⟨by rfl, by intro w'; go_simp; with_reducible rfl⟩) (by simp only [aq_]; rfl) ?_
    refine puq_ (i := 5) (N := some 7) rfl rfl (by kernel_rfl) (fun _ _ _ h => h) (Or.inl ⟨by rfl, by intro w'; go_simp; with_reducible rfl⟩) (by simp only [aq_]; rfl) ?_
    refine puq_ (i := 6) (N := some 8) rfl rfl (by kernel_rfl) (fun _ _ _ h => h) (Or.inl ⟨by rfl, by intro w'; go_simp; with_reducible rfl⟩) (by simp only [aq_]; rfl) ?_
    exact norm_ (by simp only [putAll, Act.put, List.setIfInBounds_toArray, List.set_cons_zero, List.set_cons_succ]) (hCont (v19, v22) _ ⟨bR HO0.out, bR HE.out, bw HB.out⟩)
  clear HB
  rintro ⟨v19, v22⟩ w3 ⟨ho19, ho22, hB3⟩
  have HB := Aside0.mk hB3
  have HO0 := Aside0.mk ho19
  have HE := Aside0.mk ho22
  clear ho19 ho22 hB3
  refine norm_ (a' := ?_) (by simp only [putAll, Act.put, List.setIfInBounds_toArray, List.set_cons_zero, List.set_cons_succ]; rfl) ?_
  refine done_ (by kernel_rfl) ?_
  have HW3 := Aside0.mk (below_size HB.out)
  have HLT := Aside0.mk (Kd.R_lt HE.out)
  go_wp2
  go_loopg [6, 9] l1.length (fun kq v6 v9 w' => ∃ (i : Int) (pre rest out : List Int) (Ao : Option Addr) (co : Nat), v9 = .int .i64 i ∧ v6 = .slice Ao out.length co ∧ Aside0 (i = (pre.length : Int)) ∧ Aside0 (l1 = pre ++ rest) ∧ Aside0 (rest.length = kq) ∧ Aside0 (out.length = pre.length) ∧ Aside0 (spec_UnitSlots.go l0 rest out = spec_UnitSlots.go l0 l1 []) ∧ Aside0 (∀ y ∈ out, 0 ≤ y ∧ y < (l0.length : Int)) ∧ Aside0 (Kd.C (Kd.int .i64) w' Ao out.length out ∧ out.length ≤ co) ∧ Aside0 (∀ ad, Ao = some ad → 0 < out.length → w3.heap.size ≤ ad.block) ∧ Aside0 (Kd.R (Kd.int .i64) 3 w' w.heap.size (fun _ => True) v22 (List.replicate l0.length (0 : Int))) ∧ Aside0 (Below w3.heap.size w3 w') ∧ Aside0 (Below w.heap.size w w'))
  case atStart =>
   obtain ⟨A9, c9, e9⟩ := Kd.R_slice HO0.out
   subst e9
   exact ⟨0, [], l1, [], A9, c9, rfl, rfl, ⟨rfl⟩, ⟨rfl⟩, ⟨rfl⟩, ⟨rfl⟩, ⟨rfl⟩, ⟨fun y hy => by cases hy⟩, ⟨(Kd.R_reads' HO0.out).2.2, Nat.zero_le _⟩, ⟨fun _ _ h => absurd h (by simp)⟩, HE, ⟨Below.refl _ _⟩, HB⟩
  case round =>
   clear HB HE HO0
   obtain ⟨i, pre, rest, out, Ao, co, rfl, rfl, HI, HA, HN2, HOL, HGO, HOR, HOC, HOB, HE, H3, HW⟩ := hrel
   obtain ⟨wo, hwo⟩ : ∃ wo, wo = wr := ⟨_, rfl⟩
   subst hwo
   have hlen : l1.length = pre.length + rest.length := by rw [HA.out, List.length_append]
   have hi0 := HI.out
   cases rest with
   | nil =>
    simp only [List.length_nil, Nat.add_zero] at hlen
    have e3 : decide (i < (l1.length : Int)) = false := decide_eq_false (by omega)
    have HOO : Aside0 (out = spec_UnitSlots.go l0 l1 []) := ⟨by have := HGO.out; simpa [spec_UnitSlots.go] using this⟩
    clear hlen hi0
    clear H3
    have HK := Aside0.mk (Kept.refl wo (fun k_ => k_ < w3.heap.size))
    have HOL2 := Aside0.mk (show out.length ≤ 1000 by have h1 := HOL.out; have h2 := HN1.out; have h3 := congrArg List.length HA.out; simp at h3; omega)
    have HBK2 := Aside0.mk (show spec_UnitSlots.back l0 (out.take out.length).reverse 501 (List.replicate l0.length 0) = some E by rw [List.take_length, HOO.out]; exact HBK.out)
    clear HBK HGO HI HN2 HOL
    have HWL := Aside0.mk (show wrap64 ((out.length : Int) - 1) = (out.length : Int) - 1 from by have := HOL2.out; unfold wrap64; omega)
    have hwl := HWL.out
    have hwl2 : IntKind.i64.wrap ((out.length : Int) - 1) = (out.length : Int) - 1 := (i64_w _).trans hwl
    go_wp2
    go_loopg [7, 11] out.length (fun q v7 v11 w' => ∃ (j t : Int) (n : Nat) (F : List Int), v11 = .int .i64 j ∧ v7 = .int .i64 t ∧ Aside0 (j = (n : Int) - 1) ∧ Aside0 (n = q) ∧ Aside0 (n ≤ out.length) ∧ Aside0 (F.length = l0.length) ∧ Aside0 (spec_UnitSlots.back l0 (out.take n).reverse t F = some E) ∧ Aside0 (Kd.R (Kd.int .i64) 3 w' w.heap.size (fun _ => True) v22 F) ∧ Aside0 (Kept wo w' (fun k_ => k_ < w3.heap.size)) ∧ Aside0 (Below w.heap.size w w'))
    case atStart => exact ⟨(out.length : Int) - 1, 501, out.length, List.replicate l0.length 0, (by first | rfl | rw [hwl] | simp [hwl]), rfl, ⟨rfl⟩, ⟨rfl⟩, ⟨Nat.le_refl _⟩, ⟨List.length_replicate ..⟩, HBK2, ⟨bR HE.out⟩, HK, ⟨bw HW.out⟩⟩
    case round =>
     clear HBK2 HE HK HW hwl hwl2
     obtain ⟨j, t, n, F, rfl, rfl, HJ, HNQ, HNL, HFL, HBK, HE, HK, HB⟩ := hrel
     have hj := HJ.out
     cases n with
     | zero =>
      have d1 : decide (j ≥ 0) = false := decide_eq_false (by omega)
      have d1b : decide (0 ≤ j) = false := decide_eq_false (by omega)
      have HFE : Aside0 (F = E) := ⟨by have := HBK.out; simpa [spec_UnitSlots.back] using this⟩
      clear hj
      obtain ⟨w4, hw4⟩ : ∃ w4, w4 = wr := ⟨_, rfl⟩
      subst hw4
      obtain ⟨A22, c22, e22⟩ := Kd.R_slice HE.out
      subst e22
      have HEC := Aside0.mk (Kd.R_reads' HE.out).2.2
      have HWB := Aside0.mk HB.out
      have HF2 := Aside0.mk (show l1.map (fun x => rd F x) = r1 by rw [HFE.out]; exact HRES.out)
      clear HE HK HB HBK HFE
      go_wp2_with ((with_reducible refine gate_dst (N := 94) rfl ?_); refine Kd.R_lit (Kd.int .i64) _ 3 ?hg (N := 94) ?hd (xs := ([] : List Int)) (inner := []) (ok := fun _ => True) (okp := fun _ => True) ?hr ?hp (fun _ hk => hk) trivial (Below.refl _ _) (Nat.le_refl _) (by simp) ?_; (case hd => rfl); (case hg => rfl); (case hr => first | (go_simp; done) | (go_simp; rfl)); (case hp => exact (Reps.none _ _)); intro v94 w94 ho hb hg_ hnew_; clear hg_ hnew_; have HR := Aside0.mk (show Kd.R (Kd.int .i64) 3 w94 w4.heap.size (fun _ => True) v94 [] from ho); have HB := Aside0.mk (show Below w4.heap.size w4 w94 from hb); clear ho hb)
      go_loopg [12, 13] l1.length (fun q v12 v13 w' => ∃ (i : Int) (pre rest : List Int), v13 = .int .i64 i ∧ Aside0 (i = (pre.length : Int)) ∧ Aside0 (l1 = pre ++ rest) ∧ Aside0 (rest.length = q) ∧ Aside0 (Kd.R (Kd.int .i64) 3 w' w4.heap.size (fun _ => True) v12 (pre.map (fun x => rd F x))) ∧ Aside0 (Below w4.heap.size w4 w'))
      case atStart => exact ⟨0, [], l1, rfl, ⟨rfl⟩, ⟨rfl⟩, ⟨rfl⟩, ⟨bR HR.out⟩, ⟨bw HB.out⟩⟩
      case round =>
       clear HR HB
       obtain ⟨i4, pre4, rest4, rfl, HI4, HA4, HN4, HR, HB⟩ := hrel
       have hlen : l1.length = pre4.length + rest4.length := by rw [HA4.out, List.length_append]
       have hi0 := HI4.out
       cases rest4 with
       | nil =>
        simp only [List.length_nil, Nat.add_zero] at hlen
        have e4 : decide (i4 < (l1.length : Int)) = false := decide_eq_false (by omega)
        have HR9 := Aside0.mk (show pre4.map (fun x => rd F x) = r1 by rw [← HF2.out, HA4.out, List.append_nil])
        clear hlen hi0
        go_wp2
        go_ret2
        exact ⟨_, rfl, by rw [← HR9.out]; exact Kd.R_lower HR.out (below_size HWB.out), below_step HWB.out HB.out⟩
       | cons x rest4 =>
        simp only [List.length_cons] at hlen
        have e4 : decide (i4 < (l1.length : Int)) = true := decide_eq_true (by omega)
        have p1 : 0 ≤ i4 := by omega
        have q1 : i4 < (l1.length : Int) := by omega
        have hx : rd l1 i4 = x := by
         rw [HA4.out, hi0]
         show (pre4 ++ x :: rest4).getD (pre4.length : Int).toNat 0 = x
         simp
        obtain ⟨ad1, ea, hxc⟩ := Kd.at_int (Kd.C_below (Kd.C_below HR1.out HWB.out) HB.out) i4 p1 q1
        rw [hx] at hxc
        cases ea
        have hxr := HRG.out x (by rw [HA4.out]; simp)
        have hxl : x < (F.length : Int) := by rw [HFL.out]; exact hxr.2
        obtain ⟨ad2, ea2, hec⟩ := Kd.at_int (Kd.C_below HEC.out HB.out) x hxr.1 hxl
        cases ea2
        obtain ⟨kq, rfl⟩ : ∃ kq, gk = kq + 1 := ⟨rest4.length, by have := HN4.out; simpa using this.symm⟩
        have HL4 := Aside0.mk (show (pre4.map (fun x => rd F x)).length ≤ 1000 by have h1 := HN1.out; rw [List.length_map]; omega)
        have hw : wrap64 (i4 + 1) = i4 + 1 := by have := HN1.out; unfold wrap64; omega
        have hw2 : IntKind.i64.wrap (i4 + 1) = i4 + 1 := (i64_w _).trans hw
        have p1b := eq_true p1
        have q1b := eq_true q1
        have x1b := eq_true hxr.1
        have x2b := eq_true hxl
        obtain ⟨A12, c12, e12⟩ := Kd.R_slice HR.out
        subst e12
        obtain ⟨z, hz⟩ : ∃ z, z = rd F x := ⟨_, rfl⟩
        rw [← hz] at hec
        have HZ := Aside0.mk hz
        clear hlen hi0 hx hxr hxl p1 q1 hz
        go_wp2_with (((with_reducible refine gate_builtin (b := .append) (xs := #[.tmp 101, .tmp 109]) rfl ?_); at_builtin; refine Kd.R_append (Kd.int .i64) (w0 := w4) w4.heap.size rfl (.tmp 101) (.tmp 109) 23 3 (.int .i64 0) 8 rfl Try.underlying23 (show (Try.prog.info? 3).map (fun i => (i.zero, i.size, i.bytes)) = some (some (.int .i64 0), 1, 8) from by kernel_rfl) rfl (by decide) (by omega) (.slice A12 (pre4.map (fun x => rd F x)).length c12) (pre4.map (fun x => rd F x)) z [.int .i64 z] (fun _ => True) (fun _ => False) ?aV rfl ?aP (fun _ hk => hk.elim) ?aF ?aO ?aB ?aS ?aL ?_; (case aV => first | rfl | simp); (case aP => exact rfl); (case aB => exact bw HB.out); (case aF => exact (fun _ _ => trivial)); (case aO => exact (bR HR.out)); (case aS => exact (below_size (bw HB.out))); (case aL => have := HL4.out; omega); intro v8 w8 ho hb hg hat; have HR2 := Aside0.mk ho; have HB2 := Aside0.mk hb; clear ho hb hg hat HR HB))
        all_goals (go_roundg kq; (case measure => omega); (case rel => exact ⟨i4 + 1, pre4 ++ [x], rest4, (by first | rfl | rw [hw]), ⟨by have := HI4.out; simp; omega⟩, ⟨by rw [HA4.out]; simp⟩, ⟨by have := HN4.out; simp at this; omega⟩, ⟨by have := HR2.out; rw [HZ.out] at this; simpa using this⟩, HB2⟩))
     | succ m =>
      have hml : m < out.length := HNL.out
      have d1 : decide (j ≥ 0) = true := decide_eq_true (by omega)
      have d1b : decide (0 ≤ j) = true := decide_eq_true (by omega)
      obtain ⟨y, hy⟩ : ∃ y, out[m]? = some y := ⟨_, List.getElem?_eq_getElem hml⟩
      have hyr := HOR.out y (List.mem_of_getElem? hy)
      have hbk := HBK.out
      rw [List.take_add_one, hy, Option.toList_some, List.reverse_append, List.reverse_singleton] at hbk
      obtain ⟨nx, hnx, hbk2⟩ := Option.bind_eq_some_iff.mp (show (spec_l1Least.f (wrap64 (t - 1)) (rd_T37 l0 y).f3).bind _ = some E from hbk)
      have HBK2 := Aside0.mk (show spec_UnitSlots.back l0 (out.take m).reverse nx (F.set y.toNat nx) = some E from hbk2)
      obtain rfl : j = (m : Int) := by omega
      have hC := Kd.C_foot_neS (S := fun k_ => k_ < w3.heap.size) (d := Kd.int .i64) (fun h => h) HOC.out.1 (fun ad ha h0 => Nat.not_lt.2 (HOB.out ad ha h0)) _ HK.out
      obtain ⟨ado, eo, hyc⟩ := Kd.at_int hC (m : Int) (by omega) (by omega)
      have hy2 : rd out (m : Int) = y := by simp only [rd, Int.toNat_natCast, List.getD_eq_getElem?_getD, hy, Option.getD_some]
      rw [hy2, Int.toNat_natCast] at hyc
      cases eo
      obtain ⟨adj, ej, ha0, ha1, ha2, ha3⟩ := at_T37 (Kd.C_below HR0.out HB.out) y hyr.1 hyr.2
      cases ej
      have hyl : y < (F.length : Int) := by rw [HFL.out]; exact hyr.2
      obtain ⟨g22, c22, e22, gb22, gl22, HG22⟩ := Kd.R_form HE.out (by omega)
      subst e22
      have hg22 := HLT.out g22 rfl
      have p1 := eq_true (show 0 ≤ (m : Int) by omega)
      have q1 := eq_true (show (m : Int) < (out.length : Int) by omega)
      have q1n := eq_true hml
      have y1b := eq_true hyr.1
      have y2b := eq_true hyr.2
      have y3b := eq_true hyl
      have hjw : wrap64 ((m : Int) - 1) = (m : Int) - 1 := by have := HOL2.out; unfold wrap64; omega
      have hjw2 : IntKind.i64.wrap ((m : Int) - 1) = (m : Int) - 1 := (i64_w _).trans hjw
      have HJ2 := Aside0.mk (show gk - 1 = m ∧ gk - 1 < gk by have := HNQ.out; omega)
      have HM := Aside0.mk (Nat.le_of_lt hml)
      clear ha0 ha1 ha2 hC hbk hbk2 hj HBK HJ HG22 gl22 hy hy2
      generalize (rd_T37 l0 y).f3 = dy at ha3 hnx
      have HNX := Aside0.mk hnx
      clear hnx
      go_upto_region 15 with (((with_reducible refine gate_callee (f := 15) rfl ?_); refine goesL_ (some 86) rfl rfl Try.func15 (by kernel_rfl) rfl #[.int .i64 (wrap64 (t - 1)), .int .i64 dy] rfl (by (try simp only [mA_]); first | done | rfl) ?_; (with_reducible refine (spec_l1Least.calls (wrap64 (t - 1)) dy nx _ HNX.out).mono ?_); rintro e w9 ⟨rfl, ⟨nd, rfl⟩⟩; refine ⟨_, rfl, ?_⟩))
      generalize hq_ : World.drewN wr _ = w10
      replace HE := Aside0.mk (Kd.R_at hq_ HE.out)
      replace HB := Aside0.mk (below_at hq_ HB.out)
      replace HK := Aside0.mk (kept_at hq_ HK.out)
      replace hyc : w10.cell? (ado.add m) = some (.int .i64 y) := by subst hq_; exact hyc
      clear hq_ ha3
      obtain ⟨hcy, hzy⟩ := Kd.R_celln 0 HE.out y hyr.1 hyl
      have HP := Kd.R_putg HE.out y nx
      go_wp2_with ((with_reducible refine gate_store (t := 3) (p := 93) rfl ?_); refine store_event (t := 3) (p := 93) (v := ?vo_w78) (w1 := (w10.setCell ⟨g22, y.toNat, none⟩ (.int .i64 nx))) ?hg ?ho ?hn ?hr ?_; (case ho => rfl); (case hg => rfl); (case hn => rfl); (case hr => first | (go_simp; done) | (go_simp; rfl)); intro w11 hw; have HE2 := Aside0.mk (show Kd.R (Kd.int .i64) 3 w11 w.heap.size (fun _ => True) (.slice (some ⟨g22, 0, none⟩) F.length c22) (F.set y.toNat nx) from (by rw [hw]; exact HP.1)); have HB2 := Aside0.mk ((by rw [hw]; exact below_set HB.out gb22 : Below w.heap.size w w11)); have HK2 := Aside0.mk ((by rw [hw]; exact Kept.setCell HK.out (.inl hg22) _ : Kept wo w11 (fun k_ => k_ < w3.heap.size))); clear hw HE HB HK)
      go_roundg (gk - 1)
      case measure => exact HJ2.out.2
      case rel => exact ⟨(m : Int) - 1, nx, m, F.set y.toNat nx, (by first | rfl | rw [hjw]), rfl, ⟨rfl⟩, ⟨HJ2.out.1.symm⟩, HM, ⟨by rw [List.length_set]; exact HFL.out⟩, HBK2, ⟨by have := HE2.out; exact this⟩, HK2, HB2⟩
   | cons x rest =>
    simp only [List.length_cons] at hlen
    have hl9 := HN1.out
    have e3 : decide (i < (l1.length : Int)) = true := decide_eq_true (by omega)
    have p1 : 0 ≤ i := by omega
    have q1 : i < (l1.length : Int) := by omega
    have hx : rd l1 i = x := by
     rw [HA.out, hi0]
     show (pre ++ x :: rest).getD (pre.length : Int).toNat 0 = x
     simp
    obtain ⟨ad1, ea, hxc⟩ := Kd.at_int (Kd.C_below HR1.out HW.out) i p1 q1
    rw [hx] at hxc
    cases ea
    have HX1 := Aside0.mk hxc
    clear hxc hx
    have hxr := HRG.out x (by rw [HA.out]; simp)
    obtain ⟨kq, rfl⟩ : ∃ kq, gk = kq + 1 := ⟨rest.length, by have := HN2.out; simpa using this.symm⟩
    obtain ⟨kk, hkk⟩ : ∃ kk, kk = spec_UnitSlots.posN l0 x out := ⟨_, rfl⟩
    have HKL := Aside0.mk (show kk ≤ out.length from hkk ▸ spec_UnitSlots.posN_le l0 x out)
    have HK := Aside0.mk (show 0 + spec_UnitSlots.posN l0 x out = kk by rw [Nat.zero_add]; exact hkk.symm)
    have HS := Aside0.mk (show spec_UnitSlots.go l0 rest (out.take kk ++ x :: out.drop kk) = spec_UnitSlots.go l0 l1 [] by have := HGO.out; rw [spec_UnitSlots.go, ← hkk] at this; exact this)
    clear hkk HGO
    have HO := Aside0.mk HOC.out.1
    have HOCC := Aside0.mk HOC.out.2
    have HLN := Aside0.mk hlen
    have HXR := Aside0.mk hxr
    have HIW := Aside0.mk (show wrap64 (i + 1) = i + 1 from by unfold wrap64; omega)
    have hw0 := HIW.out
    have hw02 : IntKind.i64.wrap (i + 1) = i + 1 := (i64_w _).trans hw0
    have p1b := eq_true p1
    have q1b := eq_true q1
    have HB0 := Aside0.mk (Below.refl wo.heap.size wo)
    clear hi0 hl9 hlen p1 q1 HOC hxr
    go_wp2
    go_loopg [10] out.length (fun q v10 w' => ∃ (j : Nat) (rs : List Int), v10 = .int .i64 (j : Int) ∧ Aside0 (j + q = out.length) ∧ Aside0 (rs = out.drop j) ∧ Aside0 (j + spec_UnitSlots.posN l0 x rs = kk) ∧ Aside0 (Below wo.heap.size wo w'))
    case atStart => exact ⟨0, out, rfl, ⟨Nat.zero_add _⟩, ⟨rfl⟩, HK, HB0⟩
    case round =>
     clear HK HB0
     obtain ⟨j, rs, rfl, HJ, HRest, HK, HB⟩ := hrel
     have hj := HJ.out
     have n1 := Aside0.mk (below_drew1 HB.out)
     replace HB := n1
     clear n1
     have hx1 := bcl_ HB.out HX1.out
     by_cases hjl : j < out.length
     rotate_left
     ·have d1 : decide ((j : Int) < (out.length : Int)) = false := decide_eq_false (by omega)
      have d1n : decide (j < out.length) = false := decide_eq_false (by omega)
      have HJK : Aside0 (j = kk ∧ kk ≤ out.length) := ⟨by
       have h1 := HK.out
       have h2 : rs = [] := by rw [HRest.out]; exact List.drop_eq_nil_of_le (by omega)
       have h3 : spec_UnitSlots.posN l0 x [] = 0 := rfl
       rw [h2, h3] at h1
       have := HKL.out
       omega⟩
      clear hj hjl HK
      go_wp2
      refine start_ (n := 23) (S := fun w' => True) (ds := []) q5_6 (by kernel_rfl) rfl rfl trivial (fun hHeld => ?_)
      generalize wr.drew = w24 at HB hHeld ⊢
      refine puq_ (i := 0) (N := some 29) rfl rfl (by kernel_rfl) (fun _ _ _ h => h) (Or.inl ⟨by rfl, by intro w'; go_simp; with_reducible rfl⟩) (by simp only [aq_]; rfl) ?_
      refine puq_ (i := 1) (N := some 30) rfl rfl (by kernel_rfl) (fun _ _ _ h => h) (Or.inl ⟨by rfl, by intro w'; go_simp; with_reducible rfl⟩) (by simp only [aq_]; rfl) ?_
      refine puq_ (i := 2) (N := some 31) rfl rfl (by kernel_rfl) (fun _ _ _ h => h) (Or.inl ⟨by rfl, by intro w'; go_simp; with_reducible rfl⟩) (by simp only [aq_]; rfl) ?_
      refine puq_ (i := 3) (N := some 32) rfl rfl (by kernel_rfl) (fun _ _ _ h => h) (Or.inl ⟨by rfl, by intro w'; go_simp; with_reducible rfl⟩) (by simp only [aq_]; rfl) ?_
      refine puq_ (i := 4) (N := some 33) rfl rfl (by kernel_rfl) (fun _ _ _ h => h) (Or.inl ⟨by rfl, by intro w'; go_simp; with_reducible rfl⟩) (by simp only [aq_]; rfl) ?_
      refine skq_ 5 (some 34) rfl rfl (by kernel_rfl) (fun _ _ _ h => h) (by rfl) (by simp only [aq_]; rfl) ?_
      refine skq_ 6 (some 35) rfl rfl (by kernel_rfl) (fun _ _ _ h => h) (by rfl) (by simp only [aq_]; rfl) ?_
      refine skq_ 7 (some 36) rfl rfl (by kernel_rfl) (fun _ _ _ h => h) (by rfl) (by simp only [aq_]; rfl) ?_
      refine skq_ 8 (some 37) rfl rfl (by kernel_rfl) (fun _ _ _ h => h) (by rfl) (by simp only [aq_]; rfl) ?_
      refine skq_ 9 (some 38) rfl rfl (by kernel_rfl) (fun _ _ _ h => h) (by rfl) (by simp only [aq_]; rfl) ?_
      refine skq_ 10 (some 39) rfl rfl (by kernel_rfl) (fun _ _ _ h => h) (by rfl) (by simp only [aq_]; rfl) ?_
      refine skq_ 11 (some 40) rfl rfl (by kernel_rfl) (fun _ _ _ h => h) (by rfl) (by simp only [aq_]; rfl) ?_
      refine skq_ 12 (some 41) rfl rfl (by kernel_rfl) (fun _ _ _ h => h) (by rfl) (by simp only [aq_]; rfl) ?_
      refine skq_ 13 (some 42) rfl rfl (by kernel_rfl) (fun _ _ _ h => h) (by rfl) (by simp only [aq_]; rfl) ?_
      refine skq_ 14 (some 43) rfl rfl (by kernel_rfl) (fun _ _ _ h => h) (by rfl) (by simp only [aq_]; rfl) ?_
      refine skq_ 15 (some 44) rfl rfl (by kernel_rfl) (fun _ _ _ h => h) (by rfl) (by simp only [aq_]; rfl) ?_
      refine skq_ 16 (some 45) rfl rfl (by kernel_rfl) (fun _ _ _ h => h) (by rfl) (by simp only [aq_]; rfl) ?_
      refine skq_ 17 (some 46) rfl rfl (by kernel_rfl) (fun _ _ _ h => h) (by rfl) (by simp only [aq_]; rfl) ?_
      refine skq_ 18 (some 47) rfl rfl (by kernel_rfl) (fun _ _ _ h => h) (by rfl) (by simp only [aq_]; rfl) ?_
      refine skq_ 19 (some 48) rfl rfl (by kernel_rfl) (fun _ _ _ h => h) (by rfl) (by simp only [aq_]; rfl) ?_
      refine skq_ 20 (some 49) rfl rfl (by kernel_rfl) (fun _ _ _ h => h) (by rfl) (by simp only [aq_]; rfl) ?_
      refine skq_ 21 (some 50) rfl rfl (by kernel_rfl) (fun _ _ _ h => h) (by rfl) (by simp only [aq_]; rfl) ?_
      refine puq_ (i := 22) (N := some 51) rfl rfl (by kernel_rfl) (fun _ _ _ h => h) (Or.inl ⟨by rfl, by intro w'; go_simp; with_reducible rfl⟩) (by simp only [aq_]; rfl) ?_
      refine done_ (by kernel_rfl) ?_
      go_wp2
      obtain ⟨hjk, hkl⟩ := HJK.out
      subst hjk
      have HLEN := Aside0.mk (show (out.take j ++ x :: out.drop j).length = pre.length + 1 from by have := HOL.out; simp only [List.length_append, List.length_take, List.length_cons, List.length_drop]; omega)
      have hoM : out.length ≤ 1000000 := by have h1 := HLN.out; have h2 := HOL.out; have h3 := HN1.out; omega
      have HAP := Aside0.mk (show (out.take j ++ [x]).length + (out.length - j) ≤ 1000001 from by simp only [List.length_append, List.length_take, List.length_cons, List.length_nil]; omega)
      have hcL := HOCC.out
      have s1 := eq_true (show 0 ≤ (j : Int) by omega)
      have s2 := eq_true (show (j : Int) ≤ (out.length : Int) by omega)
      have s3 := eq_true (show (j : Int) ≤ (co : Int) by omega)
      have s4 := eq_true (show j ≤ co by omega)
      have s5 := eq_true (show j ≤ out.length by omega)
      have s6 := eq_true (show out.length ≤ co by omega)
      have s7 := eq_true (show (out.length : Int) ≤ (co : Int) by omega)
      have n1 := Aside0.mk (below_drew1 HB.out)
      replace HB := n1
      clear n1
      refine start_ (n := 16) (S := fun w' => w'.cell? (ad1.add i.toNat) = some (.int .i64 x)) (ds := []) q5_11 (by kernel_rfl) rfl rfl (bcl_ HB.out HX1.out) (fun hHeld => ?_)
      generalize w24.drew = w25 at HB hHeld ⊢
      refine puq_ (i := 1) (N := some 55) rfl rfl (by kernel_rfl) (fun _ _ _ h => h) (Or.inl ⟨by rfl, by intro w'; go_simp; with_reducible rfl⟩) (by simp only [aq_]; rfl) ?_
      refine puq_ (i := 2) (N := some 56) rfl rfl (by kernel_rfl) (fun _ _ _ h => h) (Or.inl ⟨by rfl, by intro w'; go_simp; with_reducible rfl⟩) (by simp only [aq_]; rfl) ?_
      refine puq_ (i := 3) (N := some 57) rfl rfl (by kernel_rfl) (fun _ _ _ h => h) (Or.inl ⟨by rfl, by intro w'; go_simp; with_reducible rfl⟩) (by simp only [aq_]; rfl) ?_
      refine puq_ (i := 5) (N := some 59) rfl rfl (by kernel_rfl) (fun _ _ _ h => h) (Or.inl ⟨by rfl, by intro w'; go_simp; with_reducible rfl⟩) (by simp only [aq_]; rfl) ?_
      refine puq_ (i := 6) (N := some 60) rfl rfl (by kernel_rfl) (fun _ _ _ h => h) (Or.inl ⟨by rfl, by intro w'; go_simp; with_reducible rfl⟩) (by simp only [aq_]; rfl) ?_
      refine puq_ (i := 7) (N := some 61) rfl rfl (by kernel_rfl) (fun _ _ _ h => h) (Or.inl ⟨by rfl, by intro w'; go_simp; with_reducible rfl⟩) (by simp only [aq_]; rfl) ?_
      refine take_ (i := 8) (N := some 62) (v := ?_) (a' := ?_) q5_12 rfl rfl (by kernel_rfl) (fun _ _ _ h => h) (Or.inl ⟨by rfl, ?_⟩) hHeld ?_ ?_
      rotate_left
      ·intro w' s0
       go_simp
       with_reducible rfl
      rotate_left
      ·simp only [aq_]
       rfl
      refine puq_ (i := 11) (N := some 65) rfl rfl (by kernel_rfl) (fun _ _ _ h => h) (Or.inl ⟨by rfl, by intro w'; go_simp; with_reducible rfl⟩) (by simp only [aq_]; rfl) ?_
      refine puq_ (i := 12) (N := some 66) rfl rfl (by kernel_rfl) (fun _ _ _ h => h) (Or.inl ⟨by rfl, by intro w'; go_simp; with_reducible rfl⟩) (by simp only [aq_]; rfl) ?_
      refine puq_ (i := 13) (N := some 67) rfl rfl (by kernel_rfl) (fun _ _ _ h => h) (Or.inl ⟨by rfl, by intro w'; go_simp; with_reducible rfl⟩) (by simp only [aq_]; rfl) ?_
      refine join_ (σ := Value × Value × Value) 3 q5_13 (fun s_ => [(54, s_.1), (58, s_.2.1), (63, s_.2.2)]) (fun s_ w' => Kd.R (Kd.int .i64) 3 w' wo.heap.size (fun _ => True) s_.2.1 (out.take j) ∧ Kd.R (Kd.int .i64) 3 w' wo.heap.size (fun _ => True) s_.2.2 ([x]) ∧ Below wo.heap.size wo w') ?_ ?_
      rotate_left
      ·intro hCont
       refine two_ (i := 0) (j := 9) (Ni := some 54) (Nj := some 63) q5_14 q5_15 rfl rfl rfl rfl (by kernel_rfl) (by decide) (by decide) (fun K hK => ?_) (fun K hK => ?_)
       ·skip
        refine Kd.R_lit_step (Kd.int .i64) _ 3 ?hg (N := 54) ?hd (xs := ([] : List Int)) (inner := []) (ok := fun _ => True) (okp := fun _ => True) ?hr ?hp (fun _ hk => hk) trivial (Below.refl _ _) (Nat.le_refl _) (by simp) ?_
        case hd => rfl
        case hg => rfl
        case hr => first | (go_simp; done) | (go_simp; rfl)
        case hp => exact (Reps.none _ _)
        intro v54 w54 ho4 hb2 hg_ hnew_
        clear hg_ hnew_
        have m1 := Aside0.mk (Kd.R_lower ho4 (below_size (bw HB.out)))
        have m2 := Aside0.mk (below_step (bw HB.out) hb2)
        have HO0 := m1
        replace HB := m2
        clear m1 m2 hb2 ho4
        refine hK.out _ _ (bcl_ HB.out HX1.out) (fun hHeld => ?_)
        clear hK K
        refine norm_ (a' := ?_) ?_ ?_
        rotate_left
        ·show Act.put _ (some 54) _ = _
         simp only [aq_]
         rfl
        refine two_ (i := 4) (j := 9) (Ni := some 58) (Nj := some 63) q5_16 q5_17 rfl rfl rfl rfl (by kernel_rfl) (by decide) (by decide) (fun K hK => ?_) (fun K hK => ?_)
        ·skip
         refine Kd.R_append_rows_step (Kd.int .i64) (w0 := wo) wo.heap.size (by rfl) (.tmp 54) (.tmp 57) 23 3 (.int .i64 0) 8 rfl Try.underlying23 info3 rfl (by decide) (by omega) v54 ([] : List Int) (out.take j) _ _ _ (fun _ => True) (fun _ => False) rfl rfl ?aO ?aR (fun _ _ h => h) (fun _ h => h.elim) ?aF ?aB ?aS ?aL ?_
         case aO => exact HO0.out
         case aR =>
          have hct := Kd.C_take (Kd.C_below HO.out HB.out) hkl
          rw [List.length_take, Nat.min_eq_left hkl] at hct
          exact hct
         case aF => exact (fun _ _ => trivial)
         case aB => exact bw HB.out
         case aS => exact below_size (bw HB.out)
         case aL => first | omega | (simp only [List.length_take, List.length_cons, List.length_nil]; omega)
         intro v58 w58 ho4 hb2 hg4 hat4
         have m1 := Aside0.mk ho4
         have m2 := Aside0.mk hb2
         have HO1 := m1
         replace HB := m2
         clear m1 m2 hb2 ho4 hg4 hat4 HO0
         refine hK.out _ _ (bcl_ HB.out HX1.out) (fun hHeld => ?_)
         clear hK K
         refine norm_ (a' := ?_) ?_ ?_
         rotate_left
         ·show Act.put _ (some 58) _ = _
          simp only [aq_]
          rfl
         refine one_ (i := 9) (N := some 63) q5_13 rfl rfl (by kernel_rfl) (by decide) (fun K hK => ?_)
         refine Kd.R_lit_step (Kd.int .i64) _ 3 ?hg (N := 63) ?hd (xs := ([x] : List Int)) (inner := [.int .i64 (x)]) (ok := fun _ => True) (okp := fun _ => True) ?hr ?hp (fun _ hk => hk) trivial (Below.refl _ _) (Nat.le_refl _) (by simp) ?_
         case hd => rfl
         case hg => rfl
         case hr => first | (go_simp; done) | (go_simp; rfl)
         case hp => exact (Reps.one (show Kd.M (Kd.int .i64) _ _ _ (x) [.int .i64 (x)] from rfl) (Reps.none _ _))
         intro v63 w63 ho4 hb2 hg_ hnew_
         clear hg_ hnew_
         have m4 := Aside0.mk (Kd.R_lower ho4 (below_size (bw HB.out)))
         have m5 := Aside0.mk (Kd.R_below (bR HO1.out) hb2)
         have m2 := Aside0.mk (below_step (bw HB.out) hb2)
         have HOy := m4
         replace HO1 := m5
         replace HB := m2
         clear m2 m4 hb2 ho4 m5
         refine hK.out _ _ (bcl_ HB.out HX1.out) (fun hHeld => ?_)
         clear hK K
         refine norm_ (a' := ?_) ?_ ?_
         rotate_left
         ·show Act.put _ (some 63) _ = _
          simp only [aq_]
          rfl
         exact norm_ (by simp only [putAll, Act.put, List.setIfInBounds_toArray, List.set_cons_zero, List.set_cons_succ]) (hCont (v54, v58, v63) _ ⟨(by first | exact Kd.R_mono HO1.out (fun _ _ => trivial) | exact Kd.R_mono (bR HO1.out) (fun _ _ => trivial)), (by first | exact Kd.R_mono HOy.out (fun _ _ => trivial) | exact Kd.R_mono (bR HOy.out) (fun _ _ => trivial)), bw HB.out⟩)
        ·skip
         refine Kd.R_lit_step (Kd.int .i64) _ 3 ?hg (N := 63) ?hd (xs := ([x] : List Int)) (inner := [.int .i64 (x)]) (ok := fun _ => True) (okp := fun _ => True) ?hr ?hp (fun _ hk => hk) trivial (Below.refl _ _) (Nat.le_refl _) (by simp) ?_
         case hd => rfl
         case hg => rfl
         case hr => first | (go_simp; done) | (go_simp; rfl)
         case hp => exact (Reps.one (show Kd.M (Kd.int .i64) _ _ _ (x) [.int .i64 (x)] from rfl) (Reps.none _ _))
         intro v63 w63 ho4 hb2 hg_ hnew_
         clear hg_ hnew_
         have m3 := Aside0.mk (Kd.R_new' ho4 (Kd.R_lt (bR HO0.out)))
         have m4 := Aside0.mk (Kd.R_lower m3.out (below_size (bw HB.out)))
         have m5 := Aside0.mk (Kd.R_below (bR HO0.out) hb2)
         clear m3
         have m2 := Aside0.mk (below_step (bw HB.out) hb2)
         have HOy := m4
         replace HO0 := m5
         replace HB := m2
         clear m2 m4 hb2 ho4 m5
         refine hK.out _ _ (bcl_ HB.out HX1.out) (fun hHeld => ?_)
         clear hK K
         refine norm_ (a' := ?_) ?_ ?_
         rotate_left
         ·show Act.put _ (some 63) _ = _
          simp only [aq_]
          rfl
         refine one_ (i := 4) (N := some 58) q5_13 rfl rfl (by kernel_rfl) (by decide) (fun K hK => ?_)
         refine Kd.R_append_rows_step (Kd.int .i64) (w0 := wo) wo.heap.size (by rfl) (.tmp 54) (.tmp 57) 23 3 (.int .i64 0) 8 rfl Try.underlying23 info3 rfl (by decide) (by omega) v54 ([] : List Int) (out.take j) _ _ _ (fun _ => True) (fun _ => False) rfl rfl ?aO ?aR (fun _ _ h => h) (fun _ h => h.elim) ?aF ?aB ?aS ?aL ?_
         case aO => exact HO0.out
         case aR =>
          have hct := Kd.C_take (Kd.C_below HO.out HB.out) hkl
          rw [List.length_take, Nat.min_eq_left hkl] at hct
          exact hct
         case aF => exact (fun _ _ => trivial)
         case aB => exact bw HB.out
         case aS => exact below_size (bw HB.out)
         case aL => first | omega | (simp only [List.length_take, List.length_cons, List.length_nil]; omega)
         intro v58 w58 ho4 hb2 hg4 hat4
         have m3 := Aside0.mk (Kd.R_after (ok := fun _ => True) (by first | exact HOy.out | exact bR HOy.out) hg4 hat4)
         have m1 := Aside0.mk ho4
         have m2 := Aside0.mk hb2
         replace HOy := m3
         have HO1 := m1
         replace HB := m2
         clear m1 m2 hb2 ho4 hg4 hat4 HO0 m3
         refine hK.out _ _ (bcl_ HB.out HX1.out) (fun hHeld => ?_)
         clear hK K
         refine norm_ (a' := ?_) ?_ ?_
         rotate_left
         ·show Act.put _ (some 58) _ = _
          simp only [aq_]
          rfl
         exact norm_ (by simp only [putAll, Act.put, List.setIfInBounds_toArray, List.set_cons_zero, List.set_cons_succ]) (hCont (v54, v58, v63) _ ⟨(by first | exact Kd.R_mono HO1.out (fun _ _ => trivial) | exact Kd.R_mono (bR HO1.out) (fun _ _ => trivial)), (by first | exact Kd.R_mono HOy.out (fun _ _ => trivial) | exact Kd.R_mono (bR HOy.out) (fun _ _ => trivial)), bw HB.out⟩)
       ·skip
        refine Kd.R_lit_step (Kd.int .i64) _ 3 ?hg (N := 63) ?hd (xs := ([x] : List Int)) (inner := [.int .i64 (x)]) (ok := fun _ => True) (okp := fun _ => True) ?hr ?hp (fun _ hk => hk) trivial (Below.refl _ _) (Nat.le_refl _) (by simp) ?_
        case hd => rfl
        case hg => rfl
        case hr => first | (go_simp; done) | (go_simp; rfl)
        case hp => exact (Reps.one (show Kd.M (Kd.int .i64) _ _ _ (x) [.int .i64 (x)] from rfl) (Reps.none _ _))
        intro v63 w63 ho4 hb2 hg_ hnew_
        clear hg_ hnew_
        have m4 := Aside0.mk (Kd.R_lower ho4 (below_size (bw HB.out)))
        have m2 := Aside0.mk (below_step (bw HB.out) hb2)
        have HOy := m4
        replace HB := m2
        clear m2 m4 hb2 ho4
        refine hK.out _ _ (bcl_ HB.out HX1.out) (fun hHeld => ?_)
        clear hK K
        refine norm_ (a' := ?_) ?_ ?_
        rotate_left
        ·show Act.put _ (some 63) _ = _
         simp only [aq_]
         rfl
        refine one_ (i := 0) (N := some 54) q5_17 rfl rfl (by kernel_rfl) (by decide) (fun K hK => ?_)
        refine Kd.R_lit_step (Kd.int .i64) _ 3 ?hg (N := 54) ?hd (xs := ([] : List Int)) (inner := []) (ok := fun _ => True) (okp := fun _ => True) ?hr ?hp (fun _ hk => hk) trivial (Below.refl _ _) (Nat.le_refl _) (by simp) ?_
        case hd => rfl
        case hg => rfl
        case hr => first | (go_simp; done) | (go_simp; rfl)
        case hp => exact (Reps.none _ _)
        intro v54 w54 ho4 hb2 hg_ hnew_
        clear hg_ hnew_
        have m3 := Aside0.mk (Kd.R_elder' (bR HOy.out) (Kd.R_base ho4) hb2)
        have m1 := Aside0.mk (Kd.R_lower ho4 (below_size (bw HB.out)))
        have m2 := Aside0.mk (below_step (bw HB.out) hb2)
        replace HOy := m3
        have HO0 := m1
        replace HB := m2
        clear m1 m2 hb2 ho4 m3
        refine hK.out _ _ (bcl_ HB.out HX1.out) (fun hHeld => ?_)
        clear hK K
        refine norm_ (a' := ?_) ?_ ?_
        rotate_left
        ·show Act.put _ (some 54) _ = _
         simp only [aq_]
         rfl
        refine one_ (i := 4) (N := some 58) q5_13 rfl rfl (by kernel_rfl) (by decide) (fun K hK => ?_)
        refine Kd.R_append_rows_step (Kd.int .i64) (w0 := wo) wo.heap.size (by rfl) (.tmp 54) (.tmp 57) 23 3 (.int .i64 0) 8 rfl Try.underlying23 info3 rfl (by decide) (by omega) v54 ([] : List Int) (out.take j) _ _ _ (fun _ => True) (fun _ => False) rfl rfl ?aO ?aR (fun _ _ h => h) (fun _ h => h.elim) ?aF ?aB ?aS ?aL ?_
        case aO => exact HO0.out
        case aR =>
         have hct := Kd.C_take (Kd.C_below HO.out HB.out) hkl
         rw [List.length_take, Nat.min_eq_left hkl] at hct
         exact hct
        case aF => exact (fun _ _ => trivial)
        case aB => exact bw HB.out
        case aS => exact below_size (bw HB.out)
        case aL => first | omega | (simp only [List.length_take, List.length_cons, List.length_nil]; omega)
        intro v58 w58 ho4 hb2 hg4 hat4
        have m3 := Aside0.mk (Kd.R_after (ok := fun _ => True) (by first | exact HOy.out | exact bR HOy.out) hg4 hat4)
        have m1 := Aside0.mk ho4
        have m2 := Aside0.mk hb2
        replace HOy := m3
        have HO1 := m1
        replace HB := m2
        clear m1 m2 hb2 ho4 hg4 hat4 HO0 m3
        refine hK.out _ _ (bcl_ HB.out HX1.out) (fun hHeld => ?_)
        clear hK K
        refine norm_ (a' := ?_) ?_ ?_
        rotate_left
        ·show Act.put _ (some 58) _ = _
         simp only [aq_]
         rfl
        exact norm_ (by simp only [putAll, Act.put, List.setIfInBounds_toArray, List.set_cons_zero, List.set_cons_succ]) (hCont (v54, v58, v63) _ ⟨(by first | exact Kd.R_mono HO1.out (fun _ _ => trivial) | exact Kd.R_mono (bR HO1.out) (fun _ _ => trivial)), (by first | exact Kd.R_mono HOy.out (fun _ _ => trivial) | exact Kd.R_mono (bR HOy.out) (fun _ _ => trivial)), bw HB.out⟩)
      clear HB
      rintro ⟨v54, v58, v63⟩ w38 ⟨h35, h37, hB8⟩
      have HB := Aside0.mk hB8
      obtain ⟨A37, c37, e37⟩ := Kd.R_slice h37
      subst e37
      refine norm_ (a' := ?_) (by simp only [putAll, Act.put, List.setIfInBounds_toArray, List.set_cons_zero, List.set_cons_succ]; rfl) ?_
      refine one_ (i := 10) (N := some 64) q5_18 rfl rfl (by kernel_rfl) (by decide) (fun K hK => ?_)
      refine Kd.R_append_rows_step (Kd.int .i64) (w0 := wo) wo.heap.size (by rfl) (.tmp 58) (.tmp 63) 23 3 (.int .i64 0) 8 rfl Try.underlying23 info3 rfl (by decide) (by omega) v58 (out.take j) [x] _ _ _ (fun _ => True) (fun _ => False) rfl rfl ?aO ?aR (fun _ _ h => h) (fun _ h => h.elim) ?aF ?aB ?aS ?aL ?_
      case aO => exact h35
      case aR => exact (Kd.R_reads' h37).2.2
      case aF => exact (fun _ _ => trivial)
      case aB => exact hB8
      case aS => exact below_size hB8
      case aL => first | omega | (simp only [List.length_take, List.length_cons, List.length_nil]; omega)
      intro v64 w39 ho38 hb38 hg38 hat38
      replace HB := Aside0.mk hb38
      clear hg38 hat38 h35 h37 hB8
      refine hK.out _ _ (bcl_ HB.out HX1.out) (fun hHeld => ?_)
      clear hK K
      refine norm_ (a' := ?_) ?_ ?_
      rotate_left
      ·show Act.put _ (some 64) _ = _
       simp only [aq_]
       rfl
      refine one_ (i := 14) (N := some 68) q5_19 rfl rfl (by kernel_rfl) (by decide) (fun K hK => ?_)
      refine Kd.R_append_rows_step (Kd.int .i64) (w0 := wo) wo.heap.size (by rfl) (.tmp 64) (.tmp 67) 23 3 (.int .i64 0) 8 rfl Try.underlying23 info3 rfl (by decide) (by omega) v64 (out.take j ++ [x]) (out.drop j) _ _ _ (fun _ => True) (fun _ => False) rfl rfl ?aO ?aR (fun _ _ h => h) (fun _ h => h.elim) ?aF ?aB ?aS ?aL ?_
      case aO => exact ho38
      case aR =>
       have hcd := Kd.C_drop (Kd.C_below HO.out hb38) hkl hcL
       rw [List.length_drop] at hcd
       simp only [show (Kd.int .i64).sz = 1 from rfl, Nat.mul_one] at hcd
       exact hcd
      case aF => exact (fun _ _ => trivial)
      case aB => exact hb38
      case aS => exact below_size hb38
      case aL => have := HAP.out; first | omega | (simp only [List.length_append, List.length_take, List.length_cons, List.length_nil, List.length_drop] at this ⊢; omega)
      intro v68 w43 ho42 hb42 hg42 hat42
      replace HB := Aside0.mk hb42
      clear hg42 hat42 ho38 hb38
      refine hK.out _ _ (bcl_ HB.out HX1.out) (fun hHeld => ?_)
      clear hK K
      refine norm_ (a' := ?_) ?_ ?_
      rotate_left
      ·show Act.put _ (some 68) _ = _
       simp only [aq_]
       rfl
      refine puq_ (i := 15) (N := some 6) rfl rfl (by kernel_rfl) (fun _ _ _ h => h) (Or.inl ⟨by rfl, by intro w'; go_simp; with_reducible rfl⟩) (by simp only [aq_]; rfl) ?_
      refine done_ (by kernel_rfl) ?_
      have HR := Aside0.mk ho42
      clear ho42 hb42
      have HE2 := Aside0.mk (Kd.R_below HE.out HB.out)
      have HW2 := Aside0.mk (below_step HW.out HB.out)
      have H32 := Aside0.mk (below_step H3.out HB.out)
      have hl_ : (out.take j ++ [x]) ++ out.drop j = out.take j ++ x :: out.drop j := List.append_assoc _ _ _
      have HLX := Aside0.mk (show (out.take j ++ x :: out.drop j).length = j + (out.length - j + 1) from by rw [List.length_append, List.length_take, List.length_cons, List.length_drop, Nat.min_eq_left hkl])
      have HR2 := Aside0.mk HR.out
      rw [hl_] at HR2
      obtain ⟨go, c43, e43, gb, gl, HG⟩ := Kd.R_form HR2.out (by rw [HLX.out]; omega)
      subst e43
      have HOB2 := Aside0.mk (show ∀ ad, some (⟨go, 0, none⟩ : Addr) = some ad → 0 < (out.take j ++ x :: out.drop j).length → w3.heap.size ≤ ad.block from fun ad h _ => by cases h; exact Nat.le_trans H3.out.size gb)
      have HOC2 := Aside0.mk (show Kd.C (Kd.int .i64) _ _ _ _ ∧ _ from ⟨(Kd.R_reads' HR2.out).2.2, (Kd.R_reads' HR2.out).2.1⟩)
      have HOR2 := Aside0.mk (show ∀ y ∈ out.take j ++ x :: out.drop j, 0 ≤ y ∧ y < (l0.length : Int) from fun y hy => by
       rcases List.mem_append.1 hy with h | h
       ·exact HOR.out y (List.mem_of_mem_take h)
       ·rcases List.mem_cons.1 h with rfl | h
        ·exact HXR.out
        ·exact HOR.out y (List.mem_of_mem_drop h))
      clear HG gb gl hl_ HR
      go_wp2
      all_goals (go_roundg kq; (case measure => omega); (case rel => exact ⟨i + 1, pre ++ [x], rest, out.take j ++ x :: out.drop j, _, c43, (by first | rfl | rw [HIW.out]), (by rw [HLX.out]), ⟨by have := HI.out; simp; omega⟩, ⟨by rw [HA.out]; simp⟩, ⟨by have := HN2.out; simp at this; omega⟩, ⟨by rw [HLEN.out, List.length_append]; rfl⟩, HS, HOR2, HOC2, HOB2, HE2, H32, HW2⟩))
     have HJ2 := Aside0.mk (show (j + 1) + (gk - 1) = out.length ∧ gk - 1 < gk from by clear hx1; omega)
     obtain ⟨y, hy⟩ : ∃ y, out[j]? = some y := ⟨_, List.getElem?_eq_getElem hjl⟩
     have hrs : rs = y :: out.drop (j + 1) := by
      rw [HRest.out, List.drop_eq_getElem_cons hjl]
      have h4 : out[j]? = some out[j] := List.getElem?_eq_getElem hjl
      rw [h4, Option.some.injEq] at hy
      rw [hy]
     have hyr := HOR.out y (List.mem_of_getElem? hy)
     have hxr := HXR.out
     have p2 : 0 ≤ (j : Int) := by omega
     have q2 : (j : Int) < (out.length : Int) := by omega
     obtain ⟨ad, ea, hyc⟩ := Kd.at_int (Kd.C_below HO.out HB.out) (j : Int) p2 q2
     have hy2 : rd out (j : Int) = y := by simp only [rd, Int.toNat_natCast, List.getD_eq_getElem?_getD, hy, Option.getD_some]
     rw [hy2, Int.toNat_natCast] at hyc
     cases ea
     obtain ⟨adj, ej, ha0, ha1, ha2, ha3⟩ := at_T37 (Kd.C_below (Kd.C_below HR0.out HW.out) HB.out) y hyr.1 hyr.2
     cases ej
     obtain ⟨adk, ek, hb0, hb1, hb2, hb3⟩ := at_T37 (Kd.C_below (Kd.C_below HR0.out HW.out) HB.out) x hxr.1 hxr.2
     cases ek
     have d1 : decide ((j : Int) < (out.length : Int)) = true := decide_eq_true q2
     have d1n : decide (j < out.length) = true := decide_eq_true hjl
     have q2n := eq_true hjl
     have p2b := eq_true p2
     have q2b := eq_true q2
     have y1b := eq_true hyr.1
     have y2b := eq_true hyr.2
     have x1b := eq_true hxr.1
     have x2b := eq_true hxr.2
     have hw : wrap64 ((j : Int) + 1) = ((j + 1 : Nat) : Int) := by have h1 := HLN.out; have h2 := HOL.out; have h3 := HN1.out; unfold wrap64; omega
     have hw2 : IntKind.i64.wrap ((j : Int) + 1) = ((j + 1 : Nat) : Int) := (i64_w _).trans hw
     have HK0 := HK.out
     rw [hrs, spec_UnitSlots.posN] at HK0
     have HKQ := Aside0.mk HK0
     clear HK0 HK ha0 ha1 ha2 hb0 hb1 hb2
     generalize (rd_T37 l0 y).f3 = dy at ha3 HKQ
     generalize (rd_T37 l0 x).f3 = dx at hb3 HKQ
     by_cases hle : dy ≤ dx
     ·have d2 : decide (dy ≤ dx) = true := decide_eq_true hle
      have HK2 := Aside0.mk (show (j + 1) + spec_UnitSlots.posN l0 x (out.drop (j + 1)) = kk by have h9 := HKQ.out; rw [if_pos hle] at h9; exact (show ∀ P : Nat, (j + 1) + P = j + (P + 1) from fun P => by omega) _ |>.trans h9)
      clear hj hjl hrs hy hy2 hle p2 q2 HKQ hyr hxr
      go_wp2
      refine start_ (n := 23) (S := fun w' => w'.cell? (ad.add j) = some (.int .i64 y) ∧ w'.cell? ⟨(adj.add (y.toNat * 4)).block, (adj.add (y.toNat * 4)).off + 3, none⟩ = some (.int .i64 dy) ∧ w'.cell? (ad1.add i.toNat) = some (.int .i64 x) ∧ w'.cell? ⟨(adj.add (x.toNat * 4)).block, (adj.add (x.toNat * 4)).off + 3, none⟩ = some (.int .i64 dx)) (ds := []) q5_6 (by kernel_rfl) rfl rfl ⟨hyc, ha3, hx1, hb3⟩ (fun hHeld => ?_)
      generalize wr.drew = w24 at HB hyc ha3 hx1 hb3 hHeld ⊢
      refine puq_ (i := 0) (N := some 29) rfl rfl (by kernel_rfl) (fun _ _ _ h => h) (Or.inl ⟨by rfl, by intro w'; go_simp; with_reducible rfl⟩) (by simp only [aq_]; rfl) ?_
      refine puq_ (i := 1) (N := some 30) rfl rfl (by kernel_rfl) (fun _ _ _ h => h) (Or.inl ⟨by rfl, by intro w'; go_simp; with_reducible rfl⟩) (by simp only [aq_]; rfl) ?_
      refine puq_ (i := 2) (N := some 31) rfl rfl (by kernel_rfl) (fun _ _ _ h => h) (Or.inl ⟨by rfl, by intro w'; go_simp; with_reducible rfl⟩) (by simp only [aq_]; rfl) ?_
      refine puq_ (i := 3) (N := some 32) rfl rfl (by kernel_rfl) (fun _ _ _ h => h) (Or.inl ⟨by rfl, by intro w'; go_simp; with_reducible rfl⟩) (by simp only [aq_]; rfl) ?_
      refine puq_ (i := 4) (N := some 33) rfl rfl (by kernel_rfl) (fun _ _ _ h => h) (Or.inl ⟨by rfl, by intro w'; go_simp; with_reducible rfl⟩) (by simp only [aq_]; rfl) ?_
      refine puq_ (i := 5) (N := some 34) rfl rfl (by kernel_rfl) (fun _ _ _ h => h) (Or.inl ⟨by rfl, by intro w'; go_simp; with_reducible rfl⟩) (by simp only [aq_]; rfl) ?_
      refine puq_ (i := 6) (N := some 35) rfl rfl (by kernel_rfl) (fun _ _ _ h => h) (Or.inl ⟨by rfl, by intro w'; go_simp; with_reducible rfl⟩) (by simp only [aq_]; rfl) ?_
      refine puq_ (i := 7) (N := some 36) rfl rfl (by kernel_rfl) (fun _ _ _ h => h) (Or.inl ⟨by rfl, by intro w'; go_simp; with_reducible rfl⟩) (by simp only [aq_]; rfl) ?_
      refine puq_ (i := 8) (N := some 37) rfl rfl (by kernel_rfl) (fun _ _ _ h => h) (Or.inl ⟨by rfl, by intro w'; go_simp; with_reducible rfl⟩) (by simp only [aq_]; rfl) ?_
      refine take_ (i := 9) (N := some 38) (v := ?_) (a' := ?_) q5_7 rfl rfl (by kernel_rfl) (fun _ _ _ h => h) (Or.inl ⟨by rfl, ?_⟩) hHeld ?_ ?_
      rotate_left
      ·rintro w' ⟨s0, s1, s2, s3⟩
       go_simp
       with_reducible rfl
      rotate_left
      ·simp only [aq_]
       rfl
      refine puq_ (i := 10) (N := some 39) rfl rfl (by kernel_rfl) (fun _ _ _ h => h) (Or.inl ⟨by rfl, by intro w'; go_simp; with_reducible rfl⟩) (by simp only [aq_]; rfl) ?_
      refine puq_ (i := 11) (N := some 40) rfl rfl (by kernel_rfl) (fun _ _ _ h => h) (Or.inl ⟨by rfl, by intro w'; go_simp; with_reducible rfl⟩) (by simp only [aq_]; rfl) ?_
      refine take_ (i := 12) (N := some 41) (v := ?_) (a' := ?_) q5_8 rfl rfl (by kernel_rfl) (fun _ _ _ h => h) (Or.inl ⟨by rfl, ?_⟩) hHeld ?_ ?_
      rotate_left
      ·rintro w' ⟨s0, s1, s2, s3⟩
       go_simp
       with_reducible rfl
      rotate_left
      ·simp only [aq_]
       rfl
      refine puq_ (i := 13) (N := some 42) rfl rfl (by kernel_rfl) (fun _ _ _ h => h) (Or.inl ⟨by rfl, by intro w'; go_simp; with_reducible rfl⟩) (by simp only [aq_]; rfl) ?_
      refine puq_ (i := 14) (N := some 43) rfl rfl (by kernel_rfl) (fun _ _ _ h => h) (Or.inl ⟨by rfl, by intro w'; go_simp; with_reducible rfl⟩) (by simp only [aq_]; rfl) ?_
      refine puq_ (i := 15) (N := some 44) rfl rfl (by kernel_rfl) (fun _ _ _ h => h) (Or.inl ⟨by rfl, by intro w'; go_simp; with_reducible rfl⟩) (by simp only [aq_]; rfl) ?_
      refine puq_ (i := 16) (N := some 45) rfl rfl (by kernel_rfl) (fun _ _ _ h => h) (Or.inl ⟨by rfl, by intro w'; go_simp; with_reducible rfl⟩) (by simp only [aq_]; rfl) ?_
      refine take_ (i := 17) (N := some 46) (v := ?_) (a' := ?_) q5_9 rfl rfl (by kernel_rfl) (fun _ _ _ h => h) (Or.inl ⟨by rfl, ?_⟩) hHeld ?_ ?_
      rotate_left
      ·rintro w' ⟨s0, s1, s2, s3⟩
       go_simp
       with_reducible rfl
      rotate_left
      ·simp only [aq_]
       rfl
      refine puq_ (i := 18) (N := some 47) rfl rfl (by kernel_rfl) (fun _ _ _ h => h) (Or.inl ⟨by rfl, by intro w'; go_simp; with_reducible rfl⟩) (by simp only [aq_]; rfl) ?_
      refine puq_ (i := 19) (N := some 48) rfl rfl (by kernel_rfl) (fun _ _ _ h => h) (Or.inl ⟨by rfl, by intro w'; go_simp; with_reducible rfl⟩) (by simp only [aq_]; rfl) ?_
      refine take_ (i := 20) (N := some 49) (v := ?_) (a' := ?_) q5_10 rfl rfl (by kernel_rfl) (fun _ _ _ h => h) (Or.inl ⟨by rfl, ?_⟩) hHeld ?_ ?_
      rotate_left
      ·rintro w' ⟨s0, s1, s2, s3⟩
       go_simp
       with_reducible rfl
      rotate_left
      ·simp only [aq_]
       rfl
      refine puq_ (i := 21) (N := some 50) rfl rfl (by kernel_rfl) (fun _ _ _ h => h) (Or.inl ⟨by rfl, by intro w'; go_simp; with_reducible rfl⟩) (by simp only [aq_]; rfl) ?_
      refine puq_ (i := 22) (N := some 51) rfl rfl (by kernel_rfl) (fun _ _ _ h => h) (Or.inl ⟨by rfl, by intro w'; go_simp; with_reducible rfl⟩) (by simp only [aq_]; rfl) ?_
      refine done_ (by kernel_rfl) ?_
      go_wp2
      go_roundg (gk - 1)
      case measure => exact HJ2.out.2
      case rel => exact ⟨j + 1, out.drop (j + 1), (by simp), ⟨HJ2.out.1⟩, ⟨rfl⟩, HK2, ⟨bw HB.out⟩⟩
     have d2 : decide (dy ≤ dx) = false := decide_eq_false hle
     have HJK : Aside0 (j = kk ∧ kk ≤ out.length) := ⟨by have h1 := HKQ.out; rw [if_neg hle] at h1; exact ⟨(Nat.add_zero j).symm.trans h1, HKL.out⟩⟩
     clear hj hjl hrs hy hy2 hle p2 q2 HKQ hyr hxr
     go_wp2
     refine start_ (n := 23) (S := fun w' => w'.cell? (ad.add j) = some (.int .i64 y) ∧ w'.cell? ⟨(adj.add (y.toNat * 4)).block, (adj.add (y.toNat * 4)).off + 3, none⟩ = some (.int .i64 dy) ∧ w'.cell? (ad1.add i.toNat) = some (.int .i64 x) ∧ w'.cell? ⟨(adj.add (x.toNat * 4)).block, (adj.add (x.toNat * 4)).off + 3, none⟩ = some (.int .i64 dx)) (ds := []) q5_6 (by kernel_rfl) rfl rfl ⟨hyc, ha3, hx1, hb3⟩ (fun hHeld => ?_)
     generalize wr.drew = w24 at HB hyc ha3 hx1 hb3 hHeld ⊢
     refine puq_ (i := 0) (N := some 29) rfl rfl (by kernel_rfl) (fun _ _ _ h => h) (Or.inl ⟨by rfl, by intro w'; go_simp; with_reducible rfl⟩) (by simp only [aq_]; rfl) ?_
     refine puq_ (i := 1) (N := some 30) rfl rfl (by kernel_rfl) (fun _ _ _ h => h) (Or.inl ⟨by rfl, by intro w'; go_simp; with_reducible rfl⟩) (by simp only [aq_]; rfl) ?_
     refine puq_ (i := 2) (N := some 31) rfl rfl (by kernel_rfl) (fun _ _ _ h => h) (Or.inl ⟨by rfl, by intro w'; go_simp; with_reducible rfl⟩) (by simp only [aq_]; rfl) ?_
     refine puq_ (i := 3) (N := some 32) rfl rfl (by kernel_rfl) (fun _ _ _ h => h) (Or.inl ⟨by rfl, by intro w'; go_simp; with_reducible rfl⟩) (by simp only [aq_]; rfl) ?_
     refine puq_ (i := 4) (N := some 33) rfl rfl (by kernel_rfl) (fun _ _ _ h => h) (Or.inl ⟨by rfl, by intro w'; go_simp; with_reducible rfl⟩) (by simp only [aq_]; rfl) ?_
     refine puq_ (i := 5) (N := some 34) rfl rfl (by kernel_rfl) (fun _ _ _ h => h) (Or.inl ⟨by rfl, by intro w'; go_simp; with_reducible rfl⟩) (by simp only [aq_]; rfl) ?_
     refine puq_ (i := 6) (N := some 35) rfl rfl (by kernel_rfl) (fun _ _ _ h => h) (Or.inl ⟨by rfl, by intro w'; go_simp; with_reducible rfl⟩) (by simp only [aq_]; rfl) ?_
     refine puq_ (i := 7) (N := some 36) rfl rfl (by kernel_rfl) (fun _ _ _ h => h) (Or.inl ⟨by rfl, by intro w'; go_simp; with_reducible rfl⟩) (by simp only [aq_]; rfl) ?_
     refine puq_ (i := 8) (N := some 37) rfl rfl (by kernel_rfl) (fun _ _ _ h => h) (Or.inl ⟨by rfl, by intro w'; go_simp; with_reducible rfl⟩) (by simp only [aq_]; rfl) ?_
     refine take_ (i := 9) (N := some 38) (v := ?_) (a' := ?_) q5_7 rfl rfl (by kernel_rfl) (fun _ _ _ h => h) (Or.inl ⟨by rfl, ?_⟩) hHeld ?_ ?_
     rotate_left
     ·rintro w' ⟨s0, s1, s2, s3⟩
      go_simp
      with_reducible rfl
     rotate_left
     ·simp only [aq_]
      rfl
     refine puq_ (i := 10) (N := some 39) rfl rfl (by kernel_rfl) (fun _ _ _ h => h) (Or.inl ⟨by rfl, by intro w'; go_simp; with_reducible rfl⟩) (by simp only [aq_]; rfl) ?_
     refine puq_ (i := 11) (N := some 40) rfl rfl (by kernel_rfl) (fun _ _ _ h => h) (Or.inl ⟨by rfl, by intro w'; go_simp; with_reducible rfl⟩) (by simp only [aq_]; rfl) ?_
     refine take_ (i := 12) (N := some 41) (v := ?_) (a' := ?_) q5_8 rfl rfl (by kernel_rfl) (fun _ _ _ h => h) (Or.inl ⟨by rfl, ?_⟩) hHeld ?_ ?_
     rotate_left
     ·rintro w' ⟨s0, s1, s2, s3⟩
      go_simp
      with_reducible rfl
     rotate_left
     ·simp only [aq_]
      rfl
     refine puq_ (i := 13) (N := some 42) rfl rfl (by kernel_rfl) (fun _ _ _ h => h) (Or.inl ⟨by rfl, by intro w'; go_simp; with_reducible rfl⟩) (by simp only [aq_]; rfl) ?_
     refine puq_ (i := 14) (N := some 43) rfl rfl (by kernel_rfl) (fun _ _ _ h => h) (Or.inl ⟨by rfl, by intro w'; go_simp; with_reducible rfl⟩) (by simp only [aq_]; rfl) ?_
     refine puq_ (i := 15) (N := some 44) rfl rfl (by kernel_rfl) (fun _ _ _ h => h) (Or.inl ⟨by rfl, by intro w'; go_simp; with_reducible rfl⟩) (by simp only [aq_]; rfl) ?_
     refine puq_ (i := 16) (N := some 45) rfl rfl (by kernel_rfl) (fun _ _ _ h => h) (Or.inl ⟨by rfl, by intro w'; go_simp; with_reducible rfl⟩) (by simp only [aq_]; rfl) ?_
     refine take_ (i := 17) (N := some 46) (v := ?_) (a' := ?_) q5_9 rfl rfl (by kernel_rfl) (fun _ _ _ h => h) (Or.inl ⟨by rfl, ?_⟩) hHeld ?_ ?_
     rotate_left
     ·rintro w' ⟨s0, s1, s2, s3⟩
      go_simp
      with_reducible rfl
     rotate_left
     ·simp only [aq_]
      rfl
     refine puq_ (i := 18) (N := some 47) rfl rfl (by kernel_rfl) (fun _ _ _ h => h) (Or.inl ⟨by rfl, by intro w'; go_simp; with_reducible rfl⟩) (by simp only [aq_]; rfl) ?_
     refine puq_ (i := 19) (N := some 48) rfl rfl (by kernel_rfl) (fun _ _ _ h => h) (Or.inl ⟨by rfl, by intro w'; go_simp; with_reducible rfl⟩) (by simp only [aq_]; rfl) ?_
     refine take_ (i := 20) (N := some 49) (v := ?_) (a' := ?_) q5_10 rfl rfl (by kernel_rfl) (fun _ _ _ h => h) (Or.inl ⟨by rfl, ?_⟩) hHeld ?_ ?_
     rotate_left
     ·rintro w' ⟨s0, s1, s2, s3⟩
      go_simp
      with_reducible rfl
     rotate_left
     ·simp only [aq_]
      rfl
     refine puq_ (i := 21) (N := some 50) rfl rfl (by kernel_rfl) (fun _ _ _ h => h) (Or.inl ⟨by rfl, by intro w'; go_simp; with_reducible rfl⟩) (by simp only [aq_]; rfl) ?_
     refine puq_ (i := 22) (N := some 51) rfl rfl (by kernel_rfl) (fun _ _ _ h => h) (Or.inl ⟨by rfl, by intro w'; go_simp; with_reducible rfl⟩) (by simp only [aq_]; rfl) ?_
     refine done_ (by kernel_rfl) ?_
     go_wp2
     obtain ⟨hjk, hkl⟩ := HJK.out
     subst hjk
     have HLEN := Aside0.mk (show (out.take j ++ x :: out.drop j).length = pre.length + 1 from by have := HOL.out; simp only [List.length_append, List.length_take, List.length_cons, List.length_drop]; omega)
     have hoM : out.length ≤ 1000000 := by have h1 := HLN.out; have h2 := HOL.out; have h3 := HN1.out; omega
     have HAP := Aside0.mk (show (out.take j ++ [x]).length + (out.length - j) ≤ 1000001 from by simp only [List.length_append, List.length_take, List.length_cons, List.length_nil]; omega)
     have hcL := HOCC.out
     have s1 := eq_true (show 0 ≤ (j : Int) by omega)
     have s2 := eq_true (show (j : Int) ≤ (out.length : Int) by omega)
     have s3 := eq_true (show (j : Int) ≤ (co : Int) by omega)
     have s4 := eq_true (show j ≤ co by omega)
     have s5 := eq_true (show j ≤ out.length by omega)
     have s6 := eq_true (show out.length ≤ co by omega)
     have s7 := eq_true (show (out.length : Int) ≤ (co : Int) by omega)
     have n1 := Aside0.mk (below_drew1 HB.out)
     replace HB := n1
     clear n1
     refine start_ (n := 16) (S := fun w' => w'.cell? (ad1.add i.toNat) = some (.int .i64 x)) (ds := []) q5_11 (by kernel_rfl) rfl rfl (bcl_ HB.out HX1.out) (fun hHeld => ?_)
     generalize w24.drew = w25 at HB hHeld ⊢
     refine puq_ (i := 1) (N := some 55) rfl rfl (by kernel_rfl) (fun _ _ _ h => h) (Or.inl ⟨by rfl, by intro w'; go_simp; with_reducible rfl⟩) (by simp only [aq_]; rfl) ?_
     refine puq_ (i := 2) (N := some 56) rfl rfl (by kernel_rfl) (fun _ _ _ h => h) (Or.inl ⟨by rfl, by intro w'; go_simp; with_reducible rfl⟩) (by simp only [aq_]; rfl) ?_
     refine puq_ (i := 3) (N := some 57) rfl rfl (by kernel_rfl) (fun _ _ _ h => h) (Or.inl ⟨by rfl, by intro w'; go_simp; with_reducible rfl⟩) (by simp only [aq_]; rfl) ?_
     refine puq_ (i := 5) (N := some 59) rfl rfl (by kernel_rfl) (fun _ _ _ h => h) (Or.inl ⟨by rfl, by intro w'; go_simp; with_reducible rfl⟩) (by simp only [aq_]; rfl) ?_
     refine puq_ (i := 6) (N := some 60) rfl rfl (by kernel_rfl) (fun _ _ _ h => h) (Or.inl ⟨by rfl, by intro w'; go_simp; with_reducible rfl⟩) (by simp only [aq_]; rfl) ?_
     refine puq_ (i := 7) (N := some 61) rfl rfl (by kernel_rfl) (fun _ _ _ h => h) (Or.inl ⟨by rfl, by intro w'; go_simp; with_reducible rfl⟩) (by simp only [aq_]; rfl) ?_
     refine take_ (i := 8) (N := some 62) (v := ?_) (a' := ?_) q5_12 rfl rfl (by kernel_rfl) (fun _ _ _ h => h) (Or.inl ⟨by rfl, ?_⟩) hHeld ?_ ?_
     rotate_left
     ·intro w' s0
      go_simp
      with_reducible rfl
     rotate_left
     ·simp only [aq_]
      rfl
     refine puq_ (i := 11) (N := some 65) rfl rfl (by kernel_rfl) (fun _ _ _ h => h) (Or.inl ⟨by rfl, by intro w'; go_simp; with_reducible rfl⟩) (by simp only [aq_]; rfl) ?_
     refine puq_ (i := 12) (N := some 66) rfl rfl (by kernel_rfl) (fun _ _ _ h => h) (Or.inl ⟨by rfl, by intro w'; go_simp; with_reducible rfl⟩) (by simp only [aq_]; rfl) ?_
     refine puq_ (i := 13) (N := some 67) rfl rfl (by kernel_rfl) (fun _ _ _ h => h) (Or.inl ⟨by rfl, by intro w'; go_simp; with_reducible rfl⟩) (by simp only [aq_]; rfl) ?_
     refine join_ (σ := Value × Value × Value) 3 q5_13 (fun s_ => [(54, s_.1), (58, s_.2.1), (63, s_.2.2)]) (fun s_ w' => Kd.R (Kd.int .i64) 3 w' wo.heap.size (fun _ => True) s_.2.1 (out.take j) ∧ Kd.R (Kd.int .i64) 3 w' wo.heap.size (fun _ => True) s_.2.2 ([x]) ∧ Below wo.heap.size wo w') ?_ ?_
     rotate_left
     ·intro hCont
      refine two_ (i := 0) (j := 9) (Ni := some 54) (Nj := some 63) q5_14 q5_15 rfl rfl rfl rfl (by kernel_rfl) (by decide) (by decide) (fun K hK => ?_) (fun K hK => ?_)
      ·skip
       refine Kd.R_lit_step (Kd.int .i64) _ 3 ?hg (N := 54) ?hd (xs := ([] : List Int)) (inner := []) (ok := fun _ => True) (okp := fun _ => True) ?hr ?hp (fun _ hk => hk) trivial (Below.refl _ _) (Nat.le_refl _) (by simp) ?_
       case hd => rfl
       case hg => rfl
       case hr => first | (go_simp; done) | (go_simp; rfl)
       case hp => exact (Reps.none _ _)
       intro v54 w54 ho4 hb2 hg_ hnew_
       clear hg_ hnew_
       have m1 := Aside0.mk (Kd.R_lower ho4 (below_size (bw HB.out)))
       have m2 := Aside0.mk (below_step (bw HB.out) hb2)
       have HO0 := m1
       replace HB := m2
       clear m1 m2 hb2 ho4
       refine hK.out _ _ (bcl_ HB.out HX1.out) (fun hHeld => ?_)
       clear hK K
       refine norm_ (a' := ?_) ?_ ?_
       rotate_left
       ·show Act.put _ (some 54) _ = _
        simp only [aq_]
        rfl
       refine two_ (i := 4) (j := 9) (Ni := some 58) (Nj := some 63) q5_16 q5_17 rfl rfl rfl rfl (by kernel_rfl) (by decide) (by decide) (fun K hK => ?_) (fun K hK => ?_)
       ·skip
        refine Kd.R_append_rows_step (Kd.int .i64) (w0 := wo) wo.heap.size (by rfl) (.tmp 54) (.tmp 57) 23 3 (.int .i64 0) 8 rfl Try.underlying23 info3 rfl (by decide) (by omega) v54 ([] : List Int) (out.take j) _ _ _ (fun _ => True) (fun _ => False) rfl rfl ?aO ?aR (fun _ _ h => h) (fun _ h => h.elim) ?aF ?aB ?aS ?aL ?_
        case aO => exact HO0.out
        case aR =>
         have hct := Kd.C_take (Kd.C_below HO.out HB.out) hkl
         rw [List.length_take, Nat.min_eq_left hkl] at hct
         exact hct
        case aF => exact (fun _ _ => trivial)
        case aB => exact bw HB.out
        case aS => exact below_size (bw HB.out)
        case aL => first | omega | (simp only [List.length_take, List.length_cons, List.length_nil]; omega)
        intro v58 w58 ho4 hb2 hg4 hat4
        have m1 := Aside0.mk ho4
        have m2 := Aside0.mk hb2
        have HO1 := m1
        replace HB := m2
        clear m1 m2 hb2 ho4 hg4 hat4 HO0
        refine hK.out _ _ (bcl_ HB.out HX1.out) (fun hHeld => ?_)
        clear hK K
        refine norm_ (a' := ?_) ?_ ?_
        rotate_left
        ·show Act.put _ (some 58) _ = _
         simp only [aq_]
         rfl
        refine one_ (i := 9) (N := some 63) q5_13 rfl rfl (by kernel_rfl) (by decide) (fun K hK => ?_)
        refine Kd.R_lit_step (Kd.int .i64) _ 3 ?hg (N := 63) ?hd (xs := ([x] : List Int)) (inner := [.int .i64 (x)]) (ok := fun _ => True) (okp := fun _ => True) ?hr ?hp (fun _ hk => hk) trivial (Below.refl _ _) (Nat.le_refl _) (by simp) ?_
        case hd => rfl
        case hg => rfl
        case hr => first | (go_simp; done) | (go_simp; rfl)
        case hp => exact (Reps.one (show Kd.M (Kd.int .i64) _ _ _ (x) [.int .i64 (x)] from rfl) (Reps.none _ _))
        intro v63 w63 ho4 hb2 hg_ hnew_
        clear hg_ hnew_
        have m4 := Aside0.mk (Kd.R_lower ho4 (below_size (bw HB.out)))
        have m5 := Aside0.mk (Kd.R_below (bR HO1.out) hb2)
        have m2 := Aside0.mk (below_step (bw HB.out) hb2)
        have HOy := m4
        replace HO1 := m5
        replace HB := m2
        clear m2 m4 hb2 ho4 m5
        refine hK.out _ _ (bcl_ HB.out HX1.out) (fun hHeld => ?_)
        clear hK K
        refine norm_ (a' := ?_) ?_ ?_
        rotate_left
        ·show Act.put _ (some 63) _ = _
         simp only [aq_]
         rfl
        exact norm_ (by simp only [putAll, Act.put, List.setIfInBounds_toArray, List.set_cons_zero, List.set_cons_succ]) (hCont (v54, v58, v63) _ ⟨(by first | exact Kd.R_mono HO1.out (fun _ _ => trivial) | exact Kd.R_mono (bR HO1.out) (fun _ _ => trivial)), (by first | exact Kd.R_mono HOy.out (fun _ _ => trivial) | exact Kd.R_mono (bR HOy.out) (fun _ _ => trivial)), bw HB.out⟩)
       ·skip
        refine Kd.R_lit_step (Kd.int .i64) _ 3 ?hg (N := 63) ?hd (xs := ([x] : List Int)) (inner := [.int .i64 (x)]) (ok := fun _ => True) (okp := fun _ => True) ?hr ?hp (fun _ hk => hk) trivial (Below.refl _ _) (Nat.le_refl _) (by simp) ?_
        case hd => rfl
        case hg => rfl
        case hr => first | (go_simp; done) | (go_simp; rfl)
        case hp => exact (Reps.one (show Kd.M (Kd.int .i64) _ _ _ (x) [.int .i64 (x)] from rfl) (Reps.none _ _))
        intro v63 w63 ho4 hb2 hg_ hnew_
        clear hg_ hnew_
        have m3 := Aside0.mk (Kd.R_new' ho4 (Kd.R_lt (bR HO0.out)))
        have m4 := Aside0.mk (Kd.R_lower m3.out (below_size (bw HB.out)))
        have m5 := Aside0.mk (Kd.R_below (bR HO0.out) hb2)
        clear m3
        have m2 := Aside0.mk (below_step (bw HB.out) hb2)
        have HOy := m4
        replace HO0 := m5
        replace HB := m2
        clear m2 m4 hb2 ho4 m5
        refine hK.out _ _ (bcl_ HB.out HX1.out) (fun hHeld => ?_)
        clear hK K
        refine norm_ (a' := ?_) ?_ ?_
        rotate_left
        ·show Act.put _ (some 63) _ = _
         simp only [aq_]
         rfl
        refine one_ (i := 4) (N := some 58) q5_13 rfl rfl (by kernel_rfl) (by decide) (fun K hK => ?_)
        refine Kd.R_append_rows_step (Kd.int .i64) (w0 := wo) wo.heap.size (by rfl) (.tmp 54) (.tmp 57) 23 3 (.int .i64 0) 8 rfl Try.underlying23 info3 rfl (by decide) (by omega) v54 ([] : List Int) (out.take j) _ _ _ (fun _ => True) (fun _ => False) rfl rfl ?aO ?aR (fun _ _ h => h) (fun _ h => h.elim) ?aF ?aB ?aS ?aL ?_
        case aO => exact HO0.out
        case aR =>
         have hct := Kd.C_take (Kd.C_below HO.out HB.out) hkl
         rw [List.length_take, Nat.min_eq_left hkl] at hct
         exact hct
        case aF => exact (fun _ _ => trivial)
        case aB => exact bw HB.out
        case aS => exact below_size (bw HB.out)
        case aL => first | omega | (simp only [List.length_take, List.length_cons, List.length_nil]; omega)
        intro v58 w58 ho4 hb2 hg4 hat4
        have m3 := Aside0.mk (Kd.R_after (ok := fun _ => True) (by first | exact HOy.out | exact bR HOy.out) hg4 hat4)
        have m1 := Aside0.mk ho4
        have m2 := Aside0.mk hb2
        replace HOy := m3
        have HO1 := m1
        replace HB := m2
        clear m1 m2 hb2 ho4 hg4 hat4 HO0 m3
        refine hK.out _ _ (bcl_ HB.out HX1.out) (fun hHeld => ?_)
        clear hK K
        refine norm_ (a' := ?_) ?_ ?_
        rotate_left
        ·show Act.put _ (some 58) _ = _
         simp only [aq_]
         rfl
        exact norm_ (by simp only [putAll, Act.put, List.setIfInBounds_toArray, List.set_cons_zero, List.set_cons_succ]) (hCont (v54, v58, v63) _ ⟨(by first | exact Kd.R_mono HO1.out (fun _ _ => trivial) | exact Kd.R_mono (bR HO1.out) (fun _ _ => trivial)), (by first | exact Kd.R_mono HOy.out (fun _ _ => trivial) | exact Kd.R_mono (bR HOy.out) (fun _ _ => trivial)), bw HB.out⟩)
      ·skip
       refine Kd.R_lit_step (Kd.int .i64) _ 3 ?hg (N := 63) ?hd (xs := ([x] : List Int)) (inner := [.int .i64 (x)]) (ok := fun _ => True) (okp := fun _ => True) ?hr ?hp (fun _ hk => hk) trivial (Below.refl _ _) (Nat.le_refl _) (by simp) ?_
       case hd => rfl
       case hg => rfl
       case hr => first | (go_simp; done) | (go_simp; rfl)
       case hp => exact (Reps.one (show Kd.M (Kd.int .i64) _ _ _ (x) [.int .i64 (x)] from rfl) (Reps.none _ _))
       intro v63 w63 ho4 hb2 hg_ hnew_
       clear hg_ hnew_
       have m4 := Aside0.mk (Kd.R_lower ho4 (below_size (bw HB.out)))
       have m2 := Aside0.mk (below_step (bw HB.out) hb2)
       have HOy := m4
       replace HB := m2
       clear m2 m4 hb2 ho4
       refine hK.out _ _ (bcl_ HB.out HX1.out) (fun hHeld => ?_)
       clear hK K
       refine norm_ (a' := ?_) ?_ ?_
       rotate_left
       ·show Act.put _ (some 63) _ = _
        simp only [aq_]
        rfl
       refine one_ (i := 0) (N := some 54) q5_17 rfl rfl (by kernel_rfl) (by decide) (fun K hK => ?_)
       refine Kd.R_lit_step (Kd.int .i64) _ 3 ?hg (N := 54) ?hd (xs := ([] : List Int)) (inner := []) (ok := fun _ => True) (okp := fun _ => True) ?hr ?hp (fun _ hk => hk) trivial (Below.refl _ _) (Nat.le_refl _) (by simp) ?_
       case hd => rfl
       case hg => rfl
       case hr => first | (go_simp; done) | (go_simp; rfl)
       case hp => exact (Reps.none _ _)
       intro v54 w54 ho4 hb2 hg_ hnew_
       clear hg_ hnew_
       have m3 := Aside0.mk (Kd.R_elder' (bR HOy.out) (Kd.R_base ho4) hb2)
       have m1 := Aside0.mk (Kd.R_lower ho4 (below_size (bw HB.out)))
       have m2 := Aside0.mk (below_step (bw HB.out) hb2)
       replace HOy := m3
       have HO0 := m1
       replace HB := m2
       clear m1 m2 hb2 ho4 m3
       refine hK.out _ _ (bcl_ HB.out HX1.out) (fun hHeld => ?_)
       clear hK K
       refine norm_ (a' := ?_) ?_ ?_
       rotate_left
       ·show Act.put _ (some 54) _ = _
        simp only [aq_]
        rfl
       refine one_ (i := 4) (N := some 58) q5_13 rfl rfl (by kernel_rfl) (by decide) (fun K hK => ?_)
       refine Kd.R_append_rows_step (Kd.int .i64) (w0 := wo) wo.heap.size (by rfl) (.tmp 54) (.tmp 57) 23 3 (.int .i64 0) 8 rfl Try.underlying23 info3 rfl (by decide) (by omega) v54 ([] : List Int) (out.take j) _ _ _ (fun _ => True) (fun _ => False) rfl rfl ?aO ?aR (fun _ _ h => h) (fun _ h => h.elim) ?aF ?aB ?aS ?aL ?_
       case aO => exact HO0.out
       case aR =>
        have hct := Kd.C_take (Kd.C_below HO.out HB.out) hkl
        rw [List.length_take, Nat.min_eq_left hkl] at hct
        exact hct
       case aF => exact (fun _ _ => trivial)
       case aB => exact bw HB.out
       case aS => exact below_size (bw HB.out)
       case aL => first | omega | (simp only [List.length_take, List.length_cons, List.length_nil]; omega)
       intro v58 w58 ho4 hb2 hg4 hat4
       have m3 := Aside0.mk (Kd.R_after (ok := fun _ => True) (by first | exact HOy.out | exact bR HOy.out) hg4 hat4)
       have m1 := Aside0.mk ho4
       have m2 := Aside0.mk hb2
       replace HOy := m3
       have HO1 := m1
       replace HB := m2
       clear m1 m2 hb2 ho4 hg4 hat4 HO0 m3
       refine hK.out _ _ (bcl_ HB.out HX1.out) (fun hHeld => ?_)
       clear hK K
       refine norm_ (a' := ?_) ?_ ?_
       rotate_left
       ·show Act.put _ (some 58) _ = _
        simp only [aq_]
        rfl
       exact norm_ (by simp only [putAll, Act.put, List.setIfInBounds_toArray, List.set_cons_zero, List.set_cons_succ]) (hCont (v54, v58, v63) _ ⟨(by first | exact Kd.R_mono HO1.out (fun _ _ => trivial) | exact Kd.R_mono (bR HO1.out) (fun _ _ => trivial)), (by first | exact Kd.R_mono HOy.out (fun _ _ => trivial) | exact Kd.R_mono (bR HOy.out) (fun _ _ => trivial)), bw HB.out⟩)
     clear HB
     rintro ⟨v54, v58, v63⟩ w38 ⟨h35, h37, hB8⟩
     have HB := Aside0.mk hB8
     obtain ⟨A37, c37, e37⟩ := Kd.R_slice h37
     subst e37
     refine norm_ (a' := ?_) (by simp only [putAll, Act.put, List.setIfInBounds_toArray, List.set_cons_zero, List.set_cons_succ]; rfl) ?_
     refine one_ (i := 10) (N := some 64) q5_18 rfl rfl (by kernel_rfl) (by decide) (fun K hK => ?_)
     refine Kd.R_append_rows_step (Kd.int .i64) (w0 := wo) wo.heap.size (by rfl) (.tmp 58) (.tmp 63) 23 3 (.int .i64 0) 8 rfl Try.underlying23 info3 rfl (by decide) (by omega) v58 (out.take j) [x] _ _ _ (fun _ => True) (fun _ => False) rfl rfl ?aO ?aR (fun _ _ h => h) (fun _ h => h.elim) ?aF ?aB ?aS ?aL ?_
     case aO => exact h35
     case aR => exact (Kd.R_reads' h37).2.2
     case aF => exact (fun _ _ => trivial)
     case aB => exact hB8
     case aS => exact below_size hB8
     case aL => first | omega | (simp only [List.length_take, List.length_cons, List.length_nil]; omega)
     intro v64 w39 ho38 hb38 hg38 hat38
     replace HB := Aside0.mk hb38
     clear hg38 hat38 h35 h37 hB8
     refine hK.out _ _ (bcl_ HB.out HX1.out) (fun hHeld => ?_)
     clear hK K
     refine norm_ (a' := ?_) ?_ ?_
     rotate_left
     ·show Act.put _ (some 64) _ = _
      simp only [aq_]
      rfl
     refine one_ (i := 14) (N := some 68) q5_19 rfl rfl (by kernel_rfl) (by decide) (fun K hK => ?_)
     refine Kd.R_append_rows_step (Kd.int .i64) (w0 := wo) wo.heap.size (by rfl) (.tmp 64) (.tmp 67) 23 3 (.int .i64 0) 8 rfl Try.underlying23 info3 rfl (by decide) (by omega) v64 (out.take j ++ [x]) (out.drop j) _ _ _ (fun _ => True) (fun _ => False) rfl rfl ?aO ?aR (fun _ _ h => h) (fun _ h => h.elim) ?aF ?aB ?aS ?aL ?_
     case aO => exact ho38
     case aR =>
      have hcd := Kd.C_drop (Kd.C_below HO.out hb38) hkl hcL
      rw [List.length_drop] at hcd
      simp only [show (Kd.int .i64).sz = 1 from rfl, Nat.mul_one] at hcd
      exact hcd
     case aF => exact (fun _ _ => trivial)
     case aB => exact hb38
     case aS => exact below_size hb38
     case aL => have := HAP.out; first | omega | (simp only [List.length_append, List.length_take, List.length_cons, List.length_nil, List.length_drop] at this ⊢; omega)
     intro v68 w43 ho42 hb42 hg42 hat42
     replace HB := Aside0.mk hb42
     clear hg42 hat42 ho38 hb38
     refine hK.out _ _ (bcl_ HB.out HX1.out) (fun hHeld => ?_)
     clear hK K
     refine norm_ (a' := ?_) ?_ ?_
     rotate_left
     ·show Act.put _ (some 68) _ = _
      simp only [aq_]
      rfl
     refine puq_ (i := 15) (N := some 6) rfl rfl (by kernel_rfl) (fun _ _ _ h => h) (Or.inl ⟨by rfl, by intro w'; go_simp; with_reducible rfl⟩) (by simp only [aq_]; rfl) ?_
     refine done_ (by kernel_rfl) ?_
     have HR := Aside0.mk ho42
     clear ho42 hb42
     have HE2 := Aside0.mk (Kd.R_below HE.out HB.out)
     have HW2 := Aside0.mk (below_step HW.out HB.out)
     have H32 := Aside0.mk (below_step H3.out HB.out)
     have hl_ : (out.take j ++ [x]) ++ out.drop j = out.take j ++ x :: out.drop j := List.append_assoc _ _ _
     have HLX := Aside0.mk (show (out.take j ++ x :: out.drop j).length = j + (out.length - j + 1) from by rw [List.length_append, List.length_take, List.length_cons, List.length_drop, Nat.min_eq_left hkl])
     have HR2 := Aside0.mk HR.out
     rw [hl_] at HR2
     obtain ⟨go, c43, e43, gb, gl, HG⟩ := Kd.R_form HR2.out (by rw [HLX.out]; omega)
     subst e43
     have HOB2 := Aside0.mk (show ∀ ad, some (⟨go, 0, none⟩ : Addr) = some ad → 0 < (out.take j ++ x :: out.drop j).length → w3.heap.size ≤ ad.block from fun ad h _ => by cases h; exact Nat.le_trans H3.out.size gb)
     have HOC2 := Aside0.mk (show Kd.C (Kd.int .i64) _ _ _ _ ∧ _ from ⟨(Kd.R_reads' HR2.out).2.2, (Kd.R_reads' HR2.out).2.1⟩)
     have HOR2 := Aside0.mk (show ∀ y ∈ out.take j ++ x :: out.drop j, 0 ≤ y ∧ y < (l0.length : Int) from fun y hy => by
      rcases List.mem_append.1 hy with h | h
      ·exact HOR.out y (List.mem_of_mem_take h)
      ·rcases List.mem_cons.1 h with rfl | h
       ·exact HXR.out
       ·exact HOR.out y (List.mem_of_mem_drop h))
     clear HG gb gl hl_ HR
     go_wp2
     all_goals (go_roundg kq; (case measure => omega); (case rel => exact ⟨i + 1, pre ++ [x], rest, out.take j ++ x :: out.drop j, _, c43, (by first | rfl | rw [HIW.out]), (by rw [HLX.out]), ⟨by have := HI.out; simp; omega⟩, ⟨by rw [HA.out]; simp⟩, ⟨by have := HN2.out; simp at this; omega⟩, ⟨by rw [HLEN.out, List.length_append]; rfl⟩, HS, HOR2, HOC2, HOB2, HE2, H32, HW2⟩))

/-! ### laws_toJob: function 16 -/
def laws_toJob.f (a0_0 : Int) (a0_1 : Int) (a0_2 : Int) (a0_3 : Int) : Option (Int × Int × Int × Int) := some (a0_0, a0_1, a0_2, a0_3)
set_option maxHeartbeats 8000000 in
set_option maxRecDepth 100000 in
theorem laws_toJob.calls (a0_0 : Int) (a0_1 : Int) (a0_2 : Int) (a0_3 : Int) (r1 : Int) (r2 : Int) (r3 : Int) (r4 : Int) (w : World) (h : laws_toJob.f a0_0 a0_1 a0_2 a0_3 = some (r1, r2, r3, r4)) :
  Calls Try.prog 16 #[.agg #[.int .i64 a0_0, .int .i64 a0_1, .int .i64 a0_2, .int .i64 a0_3]] w fun e w' => e = .returned (.agg #[.int .i64 r1, .int .i64 r2, .int .i64 r3, .int .i64 r4]) ∧ Below w.heap.size w w' := by
 have hu40 := Try.underlying40
 have hu37 := Try.underlying37
 have HB := Aside0.mk (Below.refl w.heap.size w)
 have H : (some (a0_0, a0_1, a0_2, a0_3)) = some (r1, r2, r3, r4) := h
 clear h
 simp only [Option.some.injEq, Prod.mk.injEq] at H
 obtain ⟨rfl, rfl, rfl, rfl⟩ := H
 go_enter Try.func16, Try.ntmps16
 go_wp2_with (first | ((with_reducible refine gate_dst (N := 1) rfl ?_); refine box_event ?hg (N := 1) ?hd (cs := #[.int .i64 a0_0, .int .i64 a0_1, .int .i64 a0_2, .int .i64 a0_3]) (t := 40) ?hr ?_; (case hd => rfl); (case hg => rfl); (case hr => first | (go_simp; done) | (go_simp; rfl)); intro gb136 hg w2 hbox hb; have n0_ := Aside0.mk (below_step (bw HB.out) hb); have n1_ := Aside0.mk (hbox); have n2_ := ge_ hg HB.out; have n3_ := ge_ hg HB.out; replace HB := n0_; have BK136 := n1_; have GW136 := n2_; have GE136 := n3_; clear n0_ n1_ n2_ n3_; clear hb hbox hg) | ((with_reducible refine gate_dst (N := 2) rfl ?_); refine box_event ?hg (N := 2) ?hd (cs := #[.int .i64 0, .int .i64 0, .int .i64 0, .int .i64 0]) (t := 37) ?hr ?_; (case hd => rfl); (case hg => rfl); (case hr => first | (go_simp; done) | (go_simp; rfl)); intro gb137 hg w3 hbox hb; have n0_ := Aside0.mk (blk_below (bs BK136.out) hb); have n1_ := Aside0.mk (below_step (by repeat (first | (with_reducible first | exact bw HB.out | refine bset ?_ | apply bA | apply bN | apply bD) | exact HB.out)) hb); have n2_ := Aside0.mk (hbox); have n3_ := Aside0.mk ((by rw [hg]; exact (below_size (by repeat (first | (with_reducible first | exact bw HB.out | refine bset ?_ | apply bA | apply bN | apply bD) | exact HB.out))) : w.heap.size ≤ gb137)); have n4_ := Aside0.mk ((by rw [hg]; exact (below_size (by repeat (first | (with_reducible first | exact bw HB.out | refine bset ?_ | apply bA | apply bN | apply bD) | exact HB.out))) : w.heap.size ≤ gb137)); have n5_ := ne_ hg BK136.out; have n6_ := en_ hg BK136.out; replace BK136 := n0_; replace HB := n1_; have BK137 := n2_; have GW137 := n3_; have GE137 := n4_; have NB136_137 := n5_; have NB137_136 := n6_; clear n0_ n1_ n2_ n3_ n4_ n5_ n6_; clear hb hbox hg) | ((with_reducible refine gate_dst (N := 3) rfl ?_); refine box_event ?hg (N := 3) ?hd (cs := #[.int .i64 0, .int .i64 0, .int .i64 0, .int .i64 0]) (t := 37) ?hr ?_; (case hd => rfl); (case hg => rfl); (case hr => first | (go_simp; done) | (go_simp; rfl)); intro gb138 hg w4 hbox hb; have n0_ := Aside0.mk (blk_below (bs BK136.out) hb); have n1_ := Aside0.mk (blk_below (bs BK137.out) hb); have n2_ := Aside0.mk (below_step (by repeat (first | (with_reducible first | exact bw HB.out | refine bset ?_ | apply bA | apply bN | apply bD) | exact HB.out)) hb); have n3_ := Aside0.mk (hbox); have n4_ := Aside0.mk ((by rw [hg]; exact (below_size (by repeat (first | (with_reducible first | exact bw HB.out | refine bset ?_ | apply bA | apply bN | apply bD) | exact HB.out))) : w.heap.size ≤ gb138)); have n5_ := Aside0.mk ((by rw [hg]; exact (below_size (by repeat (first | (with_reducible first | exact bw HB.out | refine bset ?_ | apply bA | apply bN | apply bD) | exact HB.out))) : w.heap.size ≤ gb138)); have n6_ := ne_ hg BK136.out; have n7_ := en_ hg BK136.out; have n8_ := ne_ hg BK137.out; have n9_ := en_ hg BK137.out; replace BK136 := n0_; replace BK137 := n1_; replace HB := n2_; have BK138 := n3_; have GW138 := n4_; have GE138 := n5_; have NB136_138 := n6_; have NB138_136 := n7_; have NB137_138 := n8_; have NB138_137 := n9_; clear n0_ n1_ n2_ n3_ n4_ n5_ n6_ n7_ n8_ n9_; clear hb hbox hg; have hnb5 := NB136_137.out; have hnc5 := NB137_136.out; have hnb6 := NB136_138.out; have hnc6 := NB138_136.out; obtain ⟨hcz7_0, hcz7_1, hcz7_2, hcz7_3, hfz7_0, hfz7_1, hfz7_2, hfz7_3⟩ := bz4 BK136.out; have hnb8 := NB138_137.out; have hnc8 := NB137_138.out; obtain ⟨hcz9_0, hcz9_1, hcz9_2, hcz9_3, hfz9_0, hfz9_1, hfz9_2, hfz9_3⟩ := bz4 BK138.out; obtain ⟨hcz10_0, hcz10_1, hcz10_2, hcz10_3, hfz10_0, hfz10_1, hfz10_2, hfz10_3⟩ := bz4 BK137.out))
 refine bodyPost_ret (results_cell_row rfl _ _ gb137 37 #[.int .i64 a0_0, .int .i64 a0_1, .int .i64 a0_2, .int .i64 a0_3] (0, 0) _ rfl (by (with_reducible repeat (first | refine blk_drewN ?_ _ | refine blk_drew ?_ | refine blk_alloc ?_ _)); refine blk_put (cs := #[.int .i64 a0_0, .int .i64 a0_1, .int .i64 a0_2, .int .i64 0]) ?_ 3 _ rfl; (with_reducible repeat (first | refine blk_drewN ?_ _ | refine blk_drew ?_ | refine blk_alloc ?_ _)); refine blk_put (cs := #[.int .i64 a0_0, .int .i64 a0_1, .int .i64 0, .int .i64 0]) ?_ 2 _ rfl; (with_reducible repeat (first | refine blk_drewN ?_ _ | refine blk_drew ?_ | refine blk_alloc ?_ _)); refine blk_put (cs := #[.int .i64 a0_0, .int .i64 0, .int .i64 0, .int .i64 0]) ?_ 1 _ rfl; (with_reducible repeat (first | refine blk_drewN ?_ _ | refine blk_drew ?_ | refine blk_alloc ?_ _)); refine blk_put (cs := #[.int .i64 0, .int .i64 0, .int .i64 0, .int .i64 0]) ?_ 0 _ rfl; (with_reducible repeat (first | refine blk_drewN ?_ _ | refine blk_drew ?_ | refine blk_alloc ?_ _)); refine blk_far ?_ NB137_138.out _; (with_reducible repeat (first | refine blk_drewN ?_ _ | refine blk_drew ?_ | refine blk_alloc ?_ _)); refine blk_far ?_ NB137_138.out _; (with_reducible repeat (first | refine blk_drewN ?_ _ | refine blk_drew ?_ | refine blk_alloc ?_ _)); refine blk_far ?_ NB137_138.out _; (with_reducible repeat (first | refine blk_drewN ?_ _ | refine blk_drew ?_ | refine blk_alloc ?_ _)); refine blk_far ?_ NB137_138.out _; exact bs BK137.out) Try.underlying37 rfl (by kernel_rfl)) rfl ?_
 exact ⟨by first | rfl | (simp [errW_none, errW_some] <;> rfl) | (simp [*, errW_none, errW_some] <;> rfl), by repeat (first | (with_reducible first | exact bw HB.out | refine bset ?_ | apply bA | apply bN | apply bD) | exact HB.out)⟩

end Go.Proofs.Ytolkiagalchcmaa.X
