-- Written by a program of this session (wip/gen/xp.py, over the kit's printer). Not trusted: Lean checks it.
import Derived.Test.YtphhfdofmicejaaX0
namespace Go.Proofs.Ytphhfdofmicejaa.X
open Go.RowKit Go.Proofs.YtphhfdofmicejaaW.PrintWords Go.Proofs.YtphhfdofmicejaaW.PrintLast Go.Proofs.YtphhfdofmicejaaW.PrintMore
attribute [local go_sem] max2_int min2_int max_two min_two max_three min_three max_four min_four   -- for this text's walks alone
set_option linter.unusedVariables false
set_option linter.unusedSimpArgs false

/-! ### laws_szJobS: function 4 -/
def laws_szJobS.f (l0 : List (S44)) (a1 : Int) : Option (Int) := if (wrap64 (a1 - (l0.length : Int))) < 0 then (some (-1)) else (some (wrap64 (a1 - (l0.length : Int))))
set_option maxHeartbeats 8000000 in
set_option maxRecDepth 100000 in
theorem laws_szJobS.calls (A0 : Option Addr) (c0 : Nat) (l0 : List (S44)) (a1 : Int) (r : Int) (w : World) (hr0 : Kd.C k44 w A0 l0.length l0) (hc0 : l0.length ≤ c0) (h : laws_szJobS.f l0 a1 = some r) :
  Calls Try.prog 4 #[.slice A0 l0.length c0, .int .i64 a1] w fun e w' => e = .returned (.int .i64 r) ∧ Drawn0 w w' := by
 have HR0 := Aside0.mk hr0
 have HC0 := Aside0.mk hc0
 clear hr0 hc0
 have H : (if (wrap64 (a1 - (l0.length : Int))) < 0 then (some (-1)) else (some (wrap64 (a1 - (l0.length : Int))))) = some r := h
 clear h
 by_cases c3 : (wrap64 (a1 - (l0.length : Int))) < 0
 ·rw [if_pos c3] at H
  have c3b0 : decide ((wrap64 (a1 - (l0.length : Int))) < 0) = true := decide_eq_true c3
  clear c3
  obtain rfl := Option.some.inj H
  go_enter Try.func4, Try.ntmps4
  go_wp2
  go_ret
  exact ⟨by first | rfl | (simp; done) | (simp [*]; done), by repeat (first | exact Drawn0.refl _ | apply Drawn0.step)⟩
 rw [if_neg c3] at H
 have c3b0 : decide ((wrap64 (a1 - (l0.length : Int))) < 0) = false := decide_eq_false c3
 clear c3
 obtain rfl := Option.some.inj H
 go_enter Try.func4, Try.ntmps4
 go_wp2
 go_ret
 exact ⟨by first | rfl | (simp; done) | (simp [*]; done), by repeat (first | exact Drawn0.refl _ | apply Drawn0.step)⟩

/-! ### spec_l1In: function 40 -/
def spec_l1In.f (a0 : Int) (a1 : Int) (a2 : Int) : Option (Bool) := if a0 ≥ a1 then (some (decide (a0 ≤ a2))) else (some false)
set_option maxHeartbeats 8000000 in
set_option maxRecDepth 100000 in
theorem spec_l1In.calls (a0 : Int) (a1 : Int) (a2 : Int) (r : Bool) (w : World) (h : spec_l1In.f a0 a1 a2 = some r) :
  Calls Try.prog 40 #[.int .i64 a0, .int .i64 a1, .int .i64 a2] w fun e w' => e = .returned (.bool r) ∧ Drawn0 w w' := by
 have H : (if a0 ≥ a1 then (some (decide (a0 ≤ a2))) else (some false)) = some r := h
 clear h
 by_cases c4 : a0 ≥ a1
 ·rw [if_pos c4] at H
  have c4b0 : decide (a1 ≤ a0) = true := decide_eq_true c4
  clear c4
  obtain rfl := Option.some.inj H
  go_enter Try.func40, Try.ntmps40
  go_wp2
  go_ret
  exact ⟨by first | rfl | (simp; done) | (simp [*]; done), by repeat (first | exact Drawn0.refl _ | apply Drawn0.step)⟩
 rw [if_neg c4] at H
 have c4b0 : decide (a1 ≤ a0) = false := decide_eq_false c4
 clear c4
 obtain rfl := Option.some.inj H
 go_enter Try.func40, Try.ntmps40
 go_wp2
 go_ret
 exact ⟨by first | rfl | (simp; done) | (simp [*]; done), by repeat (first | exact Drawn0.refl _ | apply Drawn0.step)⟩

/-! ### spec_l2Job: function 32 -/
def spec_l2Job.f (a0_0 : Int) (a0_1 : Int) (a0_2 : Int) (a0_3 : Int) : Option (Bool) := (spec_l1In.f a0_0 1 50).bind fun t102 => (if t102 = true then ((spec_l1In.f a0_1 0 50).bind fun t103 => (if t103 = true then ((spec_l1In.f a0_2 0 500).bind fun t104 => (if t104 = true then ((spec_l1In.f a0_3 0 500).bind fun t105 => (some t105)) else (some false))) else (some false))) else (some false))
set_option maxHeartbeats 8000000 in
set_option maxRecDepth 100000 in
theorem spec_l2Job.calls (a0_0 : Int) (a0_1 : Int) (a0_2 : Int) (a0_3 : Int) (r : Bool) (w : World) (h : spec_l2Job.f a0_0 a0_1 a0_2 a0_3 = some r) :
  Calls Try.prog 32 #[.agg #[.int .i64 a0_0, .int .i64 a0_1, .int .i64 a0_2, .int .i64 a0_3]] w fun e w' => e = .returned (.bool r) ∧ Below w.heap.size w w' := by
 have hu42 := Try.underlying42
 have HB := Aside0.mk (Below.refl w.heap.size w)
 have H : ((spec_l1In.f a0_0 1 50).bind fun t102 => (if t102 = true then ((spec_l1In.f a0_1 0 50).bind fun t103 => (if t103 = true then ((spec_l1In.f a0_2 0 500).bind fun t104 => (if t104 = true then ((spec_l1In.f a0_3 0 500).bind fun t105 => (some t105)) else (some false))) else (some false))) else (some false))) = some r := h
 clear h
 replace H := Option.bind_eq_some_iff.mp H
 obtain ⟨t102, A20, H⟩ := H
 replace H : (if t102 = true then ((spec_l1In.f a0_1 0 50).bind fun t103 => (if t103 = true then ((spec_l1In.f a0_2 0 500).bind fun t104 => (if t104 = true then ((spec_l1In.f a0_3 0 500).bind fun t105 => (some t105)) else (some false))) else (some false))) else (some false)) = some r := H
 have A2 := Aside0.mk A20
 clear A20
 by_cases c3 : t102 = true
 rotate_left
 ·replace c3 := Bool.eq_false_iff.mpr c3
  subst c3
  have H1 : (some false) = some r := by rw [if_neg (show ¬ (false = true) by decide)] at H; exact H
  clear H
  have H := H1
  clear H1
  obtain rfl := Option.some.inj H
  go_enter Try.func32, Try.ntmps32
  go_wp2_with (first | ((with_reducible refine gate_dst (N := 1) rfl ?_); refine box_event ?hg (N := 1) ?hd (cs := #[.int .i64 a0_0, .int .i64 a0_1, .int .i64 a0_2, .int .i64 a0_3]) (t := 42) ?hr ?_; (case hd => rfl); (case hg => rfl); (case hr => first | (go_simp; done) | (go_simp; rfl)); intro gb101 hg w15 hbox hb; have n0_ := Aside0.mk (below_step (bw HB.out) hb); have n1_ := Aside0.mk (hbox); have n2_ := ge_ hg HB.out; have n3_ := ge_ hg HB.out; replace HB := n0_; have BK101 := n1_; have GW101 := n2_; have GE101 := n3_; clear n0_ n1_ n2_ n3_; clear hb hbox hg; obtain ⟨hcz16_0, hcz16_1, hcz16_2, hcz16_3, hfz16_0, hfz16_1, hfz16_2, hfz16_3⟩ := bz4 BK101.out) | ((with_reducible refine gate_callee (f := 40) rfl ?_); refine goesL_ (some 5) rfl rfl Try.func40 (by kernel_rfl) rfl #[.int .i64 a0_0, .int .i64 1, .int .i64 50] rfl (by (try simp only [mA_]); first | done | rfl | (simp only [List.length_drop, List.length_take]; rfl)) ?_; (with_reducible refine (spec_l1In.calls a0_0 1 50 false _ A2.out).mono ?_); rintro e w' ⟨rfl, ⟨nd, rfl⟩⟩; refine ⟨_, rfl, ?_⟩))
  go_ret
  exact ⟨by first | rfl | (simp [errW_none, errW_some] <;> rfl) | (simp [*, errW_none, errW_some] <;> rfl), by repeat (first | (with_reducible first | exact bw HB.out | refine bset ?_ | apply bA | apply bN | apply bD) | exact HB.out)⟩
 subst c3
 have H1 : ((spec_l1In.f a0_1 0 50).bind fun t103 => (if t103 = true then ((spec_l1In.f a0_2 0 500).bind fun t104 => (if t104 = true then ((spec_l1In.f a0_3 0 500).bind fun t105 => (some t105)) else (some false))) else (some false))) = some r := by rw [if_pos rfl] at H; exact H
 clear H
 have H := H1
 clear H1
 replace H := Option.bind_eq_some_iff.mp H
 obtain ⟨t103, A40, H⟩ := H
 replace H : (if t103 = true then ((spec_l1In.f a0_2 0 500).bind fun t104 => (if t104 = true then ((spec_l1In.f a0_3 0 500).bind fun t105 => (some t105)) else (some false))) else (some false)) = some r := H
 have A4 := Aside0.mk A40
 clear A40
 by_cases c5 : t103 = true
 rotate_left
 ·replace c5 := Bool.eq_false_iff.mpr c5
  subst c5
  have H1 : (some false) = some r := by rw [if_neg (show ¬ (false = true) by decide)] at H; exact H
  clear H
  have H := H1
  clear H1
  obtain rfl := Option.some.inj H
  go_enter Try.func32, Try.ntmps32
  go_wp2_with (first | ((with_reducible refine gate_dst (N := 1) rfl ?_); refine box_event ?hg (N := 1) ?hd (cs := #[.int .i64 a0_0, .int .i64 a0_1, .int .i64 a0_2, .int .i64 a0_3]) (t := 42) ?hr ?_; (case hd => rfl); (case hg => rfl); (case hr => first | (go_simp; done) | (go_simp; rfl)); intro gb101 hg w13 hbox hb; have n0_ := Aside0.mk (below_step (bw HB.out) hb); have n1_ := Aside0.mk (hbox); have n2_ := ge_ hg HB.out; have n3_ := ge_ hg HB.out; replace HB := n0_; have BK101 := n1_; have GW101 := n2_; have GE101 := n3_; clear n0_ n1_ n2_ n3_; clear hb hbox hg; obtain ⟨hcz14_0, hcz14_1, hcz14_2, hcz14_3, hfz14_0, hfz14_1, hfz14_2, hfz14_3⟩ := bz4 BK101.out) | ((with_reducible refine gate_callee (f := 40) rfl ?_); refine goesL_ (some 5) rfl rfl Try.func40 (by kernel_rfl) rfl #[.int .i64 a0_0, .int .i64 1, .int .i64 50] rfl (by (try simp only [mA_]); first | done | rfl | (simp only [List.length_drop, List.length_take]; rfl)) ?_; (with_reducible refine (spec_l1In.calls a0_0 1 50 true _ A2.out).mono ?_); rintro e w' ⟨rfl, ⟨nd, rfl⟩⟩; refine ⟨_, rfl, ?_⟩) | (go_at_call 40; (with_reducible refine (spec_l1In.calls a0_1 0 50 false _ A4.out).mono ?_); rintro e w' ⟨rfl, ⟨nd, rfl⟩⟩))
  go_ret
  exact ⟨by first | rfl | (simp [errW_none, errW_some] <;> rfl) | (simp [*, errW_none, errW_some] <;> rfl), by repeat (first | (with_reducible first | exact bw HB.out | refine bset ?_ | apply bA | apply bN | apply bD) | exact HB.out)⟩
 subst c5
 have H1 : ((spec_l1In.f a0_2 0 500).bind fun t104 => (if t104 = true then ((spec_l1In.f a0_3 0 500).bind fun t105 => (some t105)) else (some false))) = some r := by rw [if_pos rfl] at H; exact H
 clear H
 have H := H1
 clear H1
 replace H := Option.bind_eq_some_iff.mp H
 obtain ⟨t104, A60, H⟩ := H
 replace H : (if t104 = true then ((spec_l1In.f a0_3 0 500).bind fun t105 => (some t105)) else (some false)) = some r := H
 have A6 := Aside0.mk A60
 clear A60
 by_cases c7 : t104 = true
 rotate_left
 ·replace c7 := Bool.eq_false_iff.mpr c7
  subst c7
  have H1 : (some false) = some r := by rw [if_neg (show ¬ (false = true) by decide)] at H; exact H
  clear H
  have H := H1
  clear H1
  obtain rfl := Option.some.inj H
  go_enter Try.func32, Try.ntmps32
  go_wp2_with (first | ((with_reducible refine gate_dst (N := 1) rfl ?_); refine box_event ?hg (N := 1) ?hd (cs := #[.int .i64 a0_0, .int .i64 a0_1, .int .i64 a0_2, .int .i64 a0_3]) (t := 42) ?hr ?_; (case hd => rfl); (case hg => rfl); (case hr => first | (go_simp; done) | (go_simp; rfl)); intro gb101 hg w11 hbox hb; have n0_ := Aside0.mk (below_step (bw HB.out) hb); have n1_ := Aside0.mk (hbox); have n2_ := ge_ hg HB.out; have n3_ := ge_ hg HB.out; replace HB := n0_; have BK101 := n1_; have GW101 := n2_; have GE101 := n3_; clear n0_ n1_ n2_ n3_; clear hb hbox hg; obtain ⟨hcz12_0, hcz12_1, hcz12_2, hcz12_3, hfz12_0, hfz12_1, hfz12_2, hfz12_3⟩ := bz4 BK101.out) | ((with_reducible refine gate_callee (f := 40) rfl ?_); refine goesL_ (some 5) rfl rfl Try.func40 (by kernel_rfl) rfl #[.int .i64 a0_0, .int .i64 1, .int .i64 50] rfl (by (try simp only [mA_]); first | done | rfl | (simp only [List.length_drop, List.length_take]; rfl)) ?_; (with_reducible refine (spec_l1In.calls a0_0 1 50 true _ A2.out).mono ?_); rintro e w' ⟨rfl, ⟨nd, rfl⟩⟩; refine ⟨_, rfl, ?_⟩) | (go_at_call 40; (with_reducible refine (spec_l1In.calls a0_1 0 50 true _ A4.out).mono ?_); rintro e w' ⟨rfl, ⟨nd, rfl⟩⟩) | (go_at_call 40; (with_reducible refine (spec_l1In.calls a0_2 0 500 false _ A6.out).mono ?_); rintro e w' ⟨rfl, ⟨nd, rfl⟩⟩))
  go_ret
  exact ⟨by first | rfl | (simp [errW_none, errW_some] <;> rfl) | (simp [*, errW_none, errW_some] <;> rfl), by repeat (first | (with_reducible first | exact bw HB.out | refine bset ?_ | apply bA | apply bN | apply bD) | exact HB.out)⟩
 subst c7
 have H1 : ((spec_l1In.f a0_3 0 500).bind fun t105 => (some t105)) = some r := by rw [if_pos rfl] at H; exact H
 clear H
 have H := H1
 clear H1
 replace H := Option.bind_eq_some_iff.mp H
 obtain ⟨t105, A80, H⟩ := H
 replace H : (some t105) = some r := H
 have A8 := Aside0.mk A80
 clear A80
 obtain rfl := Option.some.inj H
 go_enter Try.func32, Try.ntmps32
 go_wp2_with (first | ((with_reducible refine gate_dst (N := 1) rfl ?_); refine box_event ?hg (N := 1) ?hd (cs := #[.int .i64 a0_0, .int .i64 a0_1, .int .i64 a0_2, .int .i64 a0_3]) (t := 42) ?hr ?_; (case hd => rfl); (case hg => rfl); (case hr => first | (go_simp; done) | (go_simp; rfl)); intro gb101 hg w9 hbox hb; have n0_ := Aside0.mk (below_step (bw HB.out) hb); have n1_ := Aside0.mk (hbox); have n2_ := ge_ hg HB.out; have n3_ := ge_ hg HB.out; replace HB := n0_; have BK101 := n1_; have GW101 := n2_; have GE101 := n3_; clear n0_ n1_ n2_ n3_; clear hb hbox hg; obtain ⟨hcz10_0, hcz10_1, hcz10_2, hcz10_3, hfz10_0, hfz10_1, hfz10_2, hfz10_3⟩ := bz4 BK101.out) | ((with_reducible refine gate_callee (f := 40) rfl ?_); refine goesL_ (some 5) rfl rfl Try.func40 (by kernel_rfl) rfl #[.int .i64 a0_0, .int .i64 1, .int .i64 50] rfl (by (try simp only [mA_]); first | done | rfl | (simp only [List.length_drop, List.length_take]; rfl)) ?_; (with_reducible refine (spec_l1In.calls a0_0 1 50 true _ A2.out).mono ?_); rintro e w' ⟨rfl, ⟨nd, rfl⟩⟩; refine ⟨_, rfl, ?_⟩) | (go_at_call 40; (with_reducible refine (spec_l1In.calls a0_1 0 50 true _ A4.out).mono ?_); rintro e w' ⟨rfl, ⟨nd, rfl⟩⟩) | (go_at_call 40; (with_reducible refine (spec_l1In.calls a0_2 0 500 true _ A6.out).mono ?_); rintro e w' ⟨rfl, ⟨nd, rfl⟩⟩) | (go_at_call 40; (with_reducible refine (spec_l1In.calls a0_3 0 500 t105 _ A8.out).mono ?_); rintro e w' ⟨rfl, ⟨nd, rfl⟩⟩))
 go_ret
 exact ⟨by first | rfl | (simp [errW_none, errW_some] <;> rfl) | (simp [*, errW_none, errW_some] <;> rfl), by repeat (first | (with_reducible first | exact bw HB.out | refine bset ?_ | apply bA | apply bN | apply bD) | exact HB.out)⟩

/-! ### spec_l2Good: function 22 -/
def spec_l2Good.l0 : Nat → List (S42) → Int → Option (Bool)
 | 0, _, _ => none
 | k + 1, x0, x3 => if x3 < (x0.length : Int) then (if 0 ≤ x3 then ((spec_l2Job.f ((rd_T42 x0 x3).f0) ((rd_T42 x0 x3).f1) ((rd_T42 x0 x3).f2) ((rd_T42 x0 x3).f3)).bind fun t107 => (if t107 = true then (spec_l2Good.l0 k x0 (wrap64 (x3 + 1))) else (some false))) else (none)) else (some (decide ((x0.length : Int) ≤ 8)))
def spec_l2Good.f (k : Nat) (l0 : List (S42)) : Option (Bool) := spec_l2Good.l0 k l0 0
theorem spec_l2Good.mono_l : ∀ k, (∀ y0 y1, LeO (spec_l2Good.l0 k y0 y1) (spec_l2Good.l0 (k + 1) y0 y1))
 | 0 => fun _ _ r h => by simp [spec_l2Good.l0] at h
 | k + 1 => by
  have ih0 := spec_l2Good.mono_l k
  ·intro y0 y1
   unfold spec_l2Good.l0
   repeat' first
   | (with_reducible exact ih0 _ _)
   | (with_reducible exact LeO.refl _)
   | (with_reducible exact LeO.none _)
   | (with_reducible refine LeO.ite ?_ ?_)
   | (with_reducible refine LeO.bind ?_ (fun _ => ?_))
   | exact ih0 _ _
   | exact LeO.none _
   | refine LeO.ite ?_ ?_
   | refine LeO.bind ?_ (fun _ => ?_)
theorem spec_l2Good.mono : ∀ a0 k, LeO (spec_l2Good.f k a0) (spec_l2Good.f (k + 1) a0) := by
 intro a0 k
 have ih0 := spec_l2Good.mono_l k
 unfold spec_l2Good.f
 repeat' first
   | (with_reducible exact ih0 _ _)
   | (with_reducible exact LeO.refl _)
   | (with_reducible exact LeO.none _)
   | (with_reducible refine LeO.ite ?_ ?_)
   | (with_reducible refine LeO.bind ?_ (fun _ => ?_))
   | exact ih0 _ _
   | exact LeO.none _
   | refine LeO.ite ?_ ?_
   | refine LeO.bind ?_ (fun _ => ?_)
set_option maxHeartbeats 8000000 in
set_option maxRecDepth 100000 in
theorem spec_l2Good.calls (k : Nat) (A0 : Option Addr) (c0 : Nat) (l0 : List (S42)) (r : Bool) (w : World) (hr0 : Kd.C k42 w A0 l0.length l0) (hc0 : l0.length ≤ c0) (h : spec_l2Good.f k l0 = some r) :
  Calls Try.prog 22 #[.slice A0 l0.length c0] w fun e w' => e = .returned (.bool r) ∧ Below w.heap.size w w' := by
 have hu42 := Try.underlying42
 have HR0 := Aside0.mk hr0
 have HC0 := Aside0.mk hc0
 clear hr0 hc0
 have HB := Aside0.mk (Below.refl w.heap.size w)
 have H : (spec_l2Good.l0 k l0 0) = some r := h
 clear h
 have H' := Aside0.mk H
 clear H
 go_enter Try.func22, Try.ntmps22
 go_wp2
 go_loopg [3] k (fun kq v3 w' => ∃ (x3_1 : Int), v3 = .int .i64 x3_1 ∧ Aside0 (spec_l2Good.l0 kq l0 x3_1 = some r) ∧ Aside0 (kq ≤ k) ∧ Aside0 (Below w.heap.size w w'))
 case atStart => exact ⟨(0), (by first | rfl | (simp; done) | (simp [*]; done)), H', ⟨Nat.le_refl _⟩, ⟨bw HB.out⟩⟩
 case round =>
  clear H'
  obtain ⟨x3_1, rfl, HA, HK1, HB⟩ := hrel
  cases gk with
  | zero => exact absurd HA.out (by simp [spec_l2Good.l0])
  | succ k1 =>
   have H := HA.out
   clear HA
   simp only [spec_l2Good.l0] at H
   by_cases c2 : x3_1 < (l0.length : Int)
   rotate_left
   ·rw [if_neg c2] at H
    have c2b0 : decide (x3_1 < (l0.length : Int)) = false := decide_eq_false c2
    clear c2
    obtain rfl := Option.some.inj H
    go_wp2
    go_ret
    exact ⟨by first | rfl | (simp [errW_none, errW_some] <;> rfl) | (simp [*, errW_none, errW_some] <;> rfl), bw HB.out⟩
   rw [if_pos c2] at H
   have c2b0 : decide (x3_1 < (l0.length : Int)) = true := decide_eq_true c2
   clear c2
   by_cases c3 : 0 ≤ x3_1
   rotate_left
   ·rw [if_neg c3] at H
    exact absurd H (by simp)
   rw [if_pos c3] at H
   have c3b0 : decide (0 ≤ x3_1) = true := decide_eq_true c3
   clear c3
   replace H := Option.bind_eq_some_iff.mp H
   obtain ⟨t107, A40, H⟩ := H
   replace H : (if t107 = true then (spec_l2Good.l0 k1 l0 (wrap64 (x3_1 + 1))) else (some false)) = some r := H
   have A4 := Aside0.mk A40
   clear A40
   by_cases c5 : t107 = true
   rotate_left
   ·replace c5 := Bool.eq_false_iff.mpr c5
    subst c5
    have H1 : (some false) = some r := by rw [if_neg (show ¬ (false = true) by decide)] at H; exact H
    clear H
    have H := H1
    clear H1
    obtain rfl := Option.some.inj H
    have p106 : 0 ≤ (x3_1 : Int) := of_decide_eq_true (by first | (with_reducible assumption) | assumption)
    have q106 : x3_1 < (l0.length : Int) := of_decide_eq_true (by first | (with_reducible assumption) | assumption)
    obtain ⟨ad106, e106, hx106_0, hx106_1, hx106_2, hx106_3⟩ := at_T42 HR0.out x3_1 p106 q106
    cases e106
    replace hx106_0 := (HB.out.cell (World.block_lt_of_cell? w _ hx106_0)).trans hx106_0
    replace hx106_1 := (HB.out.cell (World.block_lt_of_cell? w _ hx106_1)).trans hx106_1
    replace hx106_2 := (HB.out.cell (World.block_lt_of_cell? w _ hx106_2)).trans hx106_2
    replace hx106_3 := (HB.out.cell (World.block_lt_of_cell? w _ hx106_3)).trans hx106_3
    replace p106 := eq_true p106
    replace q106 := eq_true q106
    go_wp2_with (first | ((with_reducible refine gate_callee (f := 32) rfl ?_); refine goesL_ (some 14) rfl rfl Try.func32 (by kernel_rfl) rfl #[.agg #[.int .i64 ((rd_T42 l0 x3_1).f0), .int .i64 ((rd_T42 l0 x3_1).f1), .int .i64 ((rd_T42 l0 x3_1).f2), .int .i64 ((rd_T42 l0 x3_1).f3)]] rfl (by (try simp only [mA_]); first | done | rfl | (simp only [List.length_drop, List.length_take]; rfl)) ?_; (with_reducible refine (spec_l2Job.calls ((rd_T42 l0 x3_1).f0) ((rd_T42 l0 x3_1).f1) ((rd_T42 l0 x3_1).f2) ((rd_T42 l0 x3_1).f3) false _ A4.out).mono ?_); rintro e w7 ⟨rfl, hb⟩; refine ⟨_, rfl, ?_⟩; have n0_ := Aside0.mk (below_step (bw HB.out) hb); replace HB := n0_; clear n0_; (try clear hb); (try clear hb2); (try clear hk); (try clear hi)))
    go_ret
    exact ⟨by first | rfl | (simp [errW_none, errW_some] <;> rfl) | (simp [*, errW_none, errW_some] <;> rfl), bw HB.out⟩
   subst c5
   have H1 : (spec_l2Good.l0 k1 l0 (wrap64 (x3_1 + 1))) = some r := by rw [if_pos rfl] at H; exact H
   clear H
   have H := H1
   clear H1
   have H' := Aside0.mk H
   clear H
   have p106 : 0 ≤ (x3_1 : Int) := of_decide_eq_true (by first | (with_reducible assumption) | assumption)
   have q106 : x3_1 < (l0.length : Int) := of_decide_eq_true (by first | (with_reducible assumption) | assumption)
   obtain ⟨ad106, e106, hx106_0, hx106_1, hx106_2, hx106_3⟩ := at_T42 HR0.out x3_1 p106 q106
   cases e106
   replace hx106_0 := (HB.out.cell (World.block_lt_of_cell? w _ hx106_0)).trans hx106_0
   replace hx106_1 := (HB.out.cell (World.block_lt_of_cell? w _ hx106_1)).trans hx106_1
   replace hx106_2 := (HB.out.cell (World.block_lt_of_cell? w _ hx106_2)).trans hx106_2
   replace hx106_3 := (HB.out.cell (World.block_lt_of_cell? w _ hx106_3)).trans hx106_3
   replace p106 := eq_true p106
   replace q106 := eq_true q106
   go_wp2_with (first | ((with_reducible refine gate_callee (f := 32) rfl ?_); refine goesL_ (some 14) rfl rfl Try.func32 (by kernel_rfl) rfl #[.agg #[.int .i64 ((rd_T42 l0 x3_1).f0), .int .i64 ((rd_T42 l0 x3_1).f1), .int .i64 ((rd_T42 l0 x3_1).f2), .int .i64 ((rd_T42 l0 x3_1).f3)]] rfl (by (try simp only [mA_]); first | done | rfl | (simp only [List.length_drop, List.length_take]; rfl)) ?_; (with_reducible refine (spec_l2Job.calls ((rd_T42 l0 x3_1).f0) ((rd_T42 l0 x3_1).f1) ((rd_T42 l0 x3_1).f2) ((rd_T42 l0 x3_1).f3) true _ A4.out).mono ?_); rintro e w6 ⟨rfl, hb⟩; refine ⟨_, rfl, ?_⟩; have n0_ := Aside0.mk (below_step (bw HB.out) hb); replace HB := n0_; clear n0_; (try clear hb); (try clear hb2); (try clear hk); (try clear hi)))
   go_roundg k1
   case measure => have := HK1.out; omega
   case rel => exact ⟨(wrap64 (x3_1 + 1)), (by first | rfl | (simp; done) | (simp [*]; done)), H', ⟨by have := HK1.out; omega⟩, ⟨bw HB.out⟩⟩

/-! ### spec_l3Plain: function 23 -/
def spec_l3Plain.l0 : Nat → List (S42) → Int → Option (Bool)
 | 0, _, _ => none
 | k + 1, x0, x3 => if x3 < (x0.length : Int) then (if 0 ≤ x3 then (if ((rd_T42 x0 x3).f2) = 0 then (spec_l3Plain.l0 k x0 (wrap64 (x3 + 1))) else (some false)) else (none)) else (some true)
def spec_l3Plain.f (k : Nat) (l0 : List (S42)) : Option (Bool) := spec_l3Plain.l0 k l0 0
theorem spec_l3Plain.mono_l : ∀ k, (∀ y0 y1, LeO (spec_l3Plain.l0 k y0 y1) (spec_l3Plain.l0 (k + 1) y0 y1))
 | 0 => fun _ _ r h => by simp [spec_l3Plain.l0] at h
 | k + 1 => by
  have ih0 := spec_l3Plain.mono_l k
  ·intro y0 y1
   unfold spec_l3Plain.l0
   repeat' first
   | (with_reducible exact ih0 _ _)
   | (with_reducible exact LeO.refl _)
   | (with_reducible exact LeO.none _)
   | (with_reducible refine LeO.ite ?_ ?_)
   | (with_reducible refine LeO.bind ?_ (fun _ => ?_))
   | exact ih0 _ _
   | exact LeO.none _
   | refine LeO.ite ?_ ?_
   | refine LeO.bind ?_ (fun _ => ?_)
theorem spec_l3Plain.mono : ∀ a0 k, LeO (spec_l3Plain.f k a0) (spec_l3Plain.f (k + 1) a0) := by
 intro a0 k
 have ih0 := spec_l3Plain.mono_l k
 unfold spec_l3Plain.f
 repeat' first
   | (with_reducible exact ih0 _ _)
   | (with_reducible exact LeO.refl _)
   | (with_reducible exact LeO.none _)
   | (with_reducible refine LeO.ite ?_ ?_)
   | (with_reducible refine LeO.bind ?_ (fun _ => ?_))
   | exact ih0 _ _
   | exact LeO.none _
   | refine LeO.ite ?_ ?_
   | refine LeO.bind ?_ (fun _ => ?_)
set_option maxHeartbeats 8000000 in
set_option maxRecDepth 100000 in
theorem spec_l3Plain.calls (k : Nat) (A0 : Option Addr) (c0 : Nat) (l0 : List (S42)) (r : Bool) (w : World) (hr0 : Kd.C k42 w A0 l0.length l0) (hc0 : l0.length ≤ c0) (h : spec_l3Plain.f k l0 = some r) :
  Calls Try.prog 23 #[.slice A0 l0.length c0] w fun e w' => e = .returned (.bool r) ∧ Drawn0 w w' := by
 have HR0 := Aside0.mk hr0
 have HC0 := Aside0.mk hc0
 clear hr0 hc0
 have H : (spec_l3Plain.l0 k l0 0) = some r := h
 clear h
 have H' := Aside0.mk H
 clear H
 go_enter Try.func23, Try.ntmps23
 go_wp2
 go_loopg [3] k (fun kq v3 w' => ∃ (x3_1 : Int), v3 = .int .i64 x3_1 ∧ Aside0 (spec_l3Plain.l0 kq l0 x3_1 = some r) ∧ Aside0 (kq ≤ k) ∧ Drawn0 w w')
 case atStart => exact ⟨(0), (by first | rfl | (simp; done) | (simp [*]; done)), H', ⟨Nat.le_refl _⟩, by repeat (first | exact Drawn0.refl _ | apply Drawn0.step)⟩
 case round =>
  clear H'
  obtain ⟨x3_1, rfl, HA, HK1, ⟨m1, rfl⟩⟩ := hrel
  cases gk with
  | zero => exact absurd HA.out (by simp [spec_l3Plain.l0])
  | succ k1 =>
   have H := HA.out
   clear HA
   simp only [spec_l3Plain.l0] at H
   by_cases c2 : x3_1 < (l0.length : Int)
   rotate_left
   ·rw [if_neg c2] at H
    have c2b0 : decide (x3_1 < (l0.length : Int)) = false := decide_eq_false c2
    clear c2
    obtain rfl := Option.some.inj H
    go_wp2
    go_ret
    exact ⟨by first | rfl | (simp; done) | (simp [*]; done), by repeat (first | exact Drawn0.refl _ | apply Drawn0.step)⟩
   rw [if_pos c2] at H
   have c2b0 : decide (x3_1 < (l0.length : Int)) = true := decide_eq_true c2
   clear c2
   by_cases c3 : 0 ≤ x3_1
   rotate_left
   ·rw [if_neg c3] at H
    exact absurd H (by simp)
   rw [if_pos c3] at H
   have c3b0 : decide (0 ≤ x3_1) = true := decide_eq_true c3
   clear c3
   by_cases c4 : ((rd_T42 l0 x3_1).f2) = 0
   rotate_left
   ·rw [if_neg c4] at H
    have c4b0 : (((rd_T42 l0 x3_1).f2) == 0) = false := beq_eq_false_iff_ne.mpr c4
    have c4b1 : (((rd_T42 l0 x3_1).f2) != 0) = true := bne_iff_ne.mpr c4
    obtain rfl := Option.some.inj H
    have p108 : 0 ≤ (x3_1 : Int) := of_decide_eq_true (by first | (with_reducible assumption) | assumption)
    have q108 : x3_1 < (l0.length : Int) := of_decide_eq_true (by first | (with_reducible assumption) | assumption)
    obtain ⟨ad108, e108, hx108_0, hx108_1, hx108_2, hx108_3⟩ := at_T42 HR0.out x3_1 p108 q108
    cases e108
    replace p108 := eq_true p108
    replace q108 := eq_true q108
    go_wp2
    go_ret
    exact ⟨by first | rfl | (simp; done) | (simp [*]; done), by repeat (first | exact Drawn0.refl _ | apply Drawn0.step)⟩
   rw [if_pos c4] at H
   have c4b0 : (((rd_T42 l0 x3_1).f2) == 0) = true := beq_iff_eq.mpr c4
   have c4b1 : (((rd_T42 l0 x3_1).f2) != 0) = false := bne_eq_false_iff_eq.mpr c4
   clear c4
   have H' := Aside0.mk H
   clear H
   have p108 : 0 ≤ (x3_1 : Int) := of_decide_eq_true (by first | (with_reducible assumption) | assumption)
   have q108 : x3_1 < (l0.length : Int) := of_decide_eq_true (by first | (with_reducible assumption) | assumption)
   obtain ⟨ad108, e108, hx108_0, hx108_1, hx108_2, hx108_3⟩ := at_T42 HR0.out x3_1 p108 q108
   cases e108
   replace p108 := eq_true p108
   replace q108 := eq_true q108
   go_wp2
   go_roundg k1
   case measure => have := HK1.out; omega
   case rel => exact ⟨(wrap64 (x3_1 + 1)), (by first | rfl | (simp; done) | (simp [*]; done)), H', ⟨by have := HK1.out; omega⟩, by repeat (first | exact Drawn0.refl _ | apply Drawn0.step)⟩

/-! ### spec_IsPlain: function 13 -/
def spec_IsPlain.f (k : Nat) (l0 : List (S42)) : Option (Bool) := (spec_l2Good.f k l0).bind fun t109 => (if t109 = true then ((spec_l3Plain.f k l0).bind fun t110 => (some t110)) else (some false))
theorem spec_IsPlain.mono : ∀ a0 k, LeO (spec_IsPlain.f k a0) (spec_IsPlain.f (k + 1) a0) := by
 intro a0 k
 unfold spec_IsPlain.f
 repeat' first
   | (with_reducible exact spec_l2Good.mono _ _)
   | (with_reducible exact spec_l3Plain.mono _ _)
   | (with_reducible exact LeO.refl _)
   | (with_reducible exact LeO.none _)
   | (with_reducible refine LeO.ite ?_ ?_)
   | (with_reducible refine LeO.bind ?_ (fun _ => ?_))
   | exact spec_l2Good.mono _ _
   | exact spec_l3Plain.mono _ _
   | exact LeO.none _
   | refine LeO.ite ?_ ?_
   | refine LeO.bind ?_ (fun _ => ?_)
set_option maxHeartbeats 8000000 in
set_option maxRecDepth 100000 in
theorem spec_IsPlain.calls (k : Nat) (A0 : Option Addr) (c0 : Nat) (l0 : List (S42)) (r : Bool) (w : World) (hr0 : Kd.C k42 w A0 l0.length l0) (hc0 : l0.length ≤ c0) (h : spec_IsPlain.f k l0 = some r) :
  Calls Try.prog 13 #[.slice A0 l0.length c0] w fun e w' => e = .returned (.bool r) ∧ Below w.heap.size w w' := by
 have HR0 := Aside0.mk hr0
 have HC0 := Aside0.mk hc0
 clear hr0 hc0
 have HB := Aside0.mk (Below.refl w.heap.size w)
 have H : ((spec_l2Good.f k l0).bind fun t109 => (if t109 = true then ((spec_l3Plain.f k l0).bind fun t110 => (some t110)) else (some false))) = some r := h
 clear h
 replace H := Option.bind_eq_some_iff.mp H
 obtain ⟨t109, A20, H⟩ := H
 replace H : (if t109 = true then ((spec_l3Plain.f k l0).bind fun t110 => (some t110)) else (some false)) = some r := H
 have A2 := Aside0.mk A20
 clear A20
 by_cases c3 : t109 = true
 rotate_left
 ·replace c3 := Bool.eq_false_iff.mpr c3
  subst c3
  have H1 : (some false) = some r := by rw [if_neg (show ¬ (false = true) by decide)] at H; exact H
  clear H
  have H := H1
  clear H1
  obtain rfl := Option.some.inj H
  go_enter Try.func13, Try.ntmps13
  go_wp2_with (first | ((with_reducible refine gate_callee (f := 22) rfl ?_); refine goesL_ (some 4) rfl rfl Try.func22 (by kernel_rfl) rfl #[.slice A0 l0.length c0] rfl (by (try simp only [mA_]); first | done | rfl | (simp only [List.length_drop, List.length_take]; rfl)) ?_; (with_reducible refine (spec_l2Good.calls k _ _ l0 false _ ?side1 ?side2 A2.out).mono ?_); (case side1 => repeat (first | exact HR0.out | (with_reducible refine Kd.C_alloc ?_ _) | (with_reducible refine Kd.C_drewN ?_ _) | (with_reducible refine Kd.C_drew ?_))); (case side2 => exact HC0.out); rintro e w6 ⟨rfl, hb⟩; refine ⟨_, rfl, ?_⟩; have n0_ := Aside0.mk (below_step (bw HB.out) hb); replace HB := n0_; clear n0_; (try clear hb); (try clear hb2); (try clear hk); (try clear hi)))
  go_ret
  exact ⟨by first | rfl | (simp [errW_none, errW_some] <;> rfl) | (simp [*, errW_none, errW_some] <;> rfl), bw HB.out⟩
 subst c3
 have H1 : ((spec_l3Plain.f k l0).bind fun t110 => (some t110)) = some r := by rw [if_pos rfl] at H; exact H
 clear H
 have H := H1
 clear H1
 replace H := Option.bind_eq_some_iff.mp H
 obtain ⟨t110, A40, H⟩ := H
 replace H : (some t110) = some r := H
 have A4 := Aside0.mk A40
 clear A40
 obtain rfl := Option.some.inj H
 go_enter Try.func13, Try.ntmps13
 go_wp2_with (first | ((with_reducible refine gate_callee (f := 22) rfl ?_); refine goesL_ (some 4) rfl rfl Try.func22 (by kernel_rfl) rfl #[.slice A0 l0.length c0] rfl (by (try simp only [mA_]); first | done | rfl | (simp only [List.length_drop, List.length_take]; rfl)) ?_; (with_reducible refine (spec_l2Good.calls k _ _ l0 true _ ?side1 ?side2 A2.out).mono ?_); (case side1 => repeat (first | exact HR0.out | (with_reducible refine Kd.C_alloc ?_ _) | (with_reducible refine Kd.C_drewN ?_ _) | (with_reducible refine Kd.C_drew ?_))); (case side2 => exact HC0.out); rintro e w5 ⟨rfl, hb⟩; refine ⟨_, rfl, ?_⟩; have n0_ := Aside0.mk (below_step (bw HB.out) hb); replace HB := n0_; clear n0_; (try clear hb); (try clear hb2); (try clear hk); (try clear hi)) | (go_at_call 23; (with_reducible refine (spec_l3Plain.calls k _ _ l0 t110 _ ?side1 ?side2 A4.out).mono ?_); (case side1 => first | exact bC HR0.out HB.out | exact Kd.C_below HR0.out HB.out); (case side2 => exact HC0.out); rintro e w' ⟨rfl, ⟨nd, rfl⟩⟩))
 go_ret
 exact ⟨by first | rfl | (simp [errW_none, errW_some] <;> rfl) | (simp [*, errW_none, errW_some] <;> rfl), bw HB.out⟩

/-! ### spec_l1Own: function 15 -/
def spec_l1Own.f (l0 : List Int) : Option (List Int) := (some (([] : List Int) : List Int)).bind fun y111 => (if y111.length + l0.length < 17592186044416 then (some (y111 ++ l0)) else (none))
set_option maxHeartbeats 8000000 in
set_option maxRecDepth 100000 in
theorem spec_l1Own.calls (A0 : Option Addr) (c0 : Nat) (l0 : List Int) (r : List Int) (w : World) (hr0 : Kd.C (Kd.int .i64) w A0 l0.length l0) (hc0 : l0.length ≤ c0) (h : spec_l1Own.f l0 = some r) :
  Calls Try.prog 15 #[.slice A0 l0.length c0] w fun e w' => ∃ v0_ : Value, e = .returned (v0_) ∧ Kd.R (Kd.int .i64) 3 w' w.heap.size (fun _ => True) v0_ r ∧ Below w.heap.size w w' := by
 have HR0 := Aside0.mk hr0
 have HC0 := Aside0.mk hc0
 clear hr0 hc0
 have HB := Aside0.mk (Below.refl w.heap.size w)
 have H : ((some (([] : List Int) : List Int)).bind fun y111 => (if y111.length + l0.length < 17592186044416 then (some (y111 ++ l0)) else (none))) = some r := h
 clear h
 obtain ⟨y111, hy111⟩ : ∃ y_ : List Int, y_ = (([] : List Int)) := ⟨_, rfl⟩
 replace H : (if y111.length + l0.length < 17592186044416 then (some (y111 ++ l0)) else (none)) = some r := by first | (rw [hy111]; with_reducible exact H) | (have H2_ := (Option.bind_some _ _).symm.trans H; rw [hy111]; with_reducible exact H2_) | (have H2_ := (Option.bind_some _ _).symm.trans H; with_reducible exact H2_) | with_reducible exact H | (rw [hy111]; exact H) | exact H
 have Ny111 := Aside0.mk hy111
 clear hy111
 by_cases c2 : y111.length + l0.length < 17592186044416
 rotate_left
 ·rw [if_neg c2] at H
  exact absurd H (by simp)
 rw [if_pos c2] at H
 have LMc2 := Aside0.mk c2
 clear c2
 obtain ⟨y114, hy114⟩ : ∃ y_ : List Int, y_ = (y111 ++ l0) := ⟨_, rfl⟩
 replace H : (some y114) = some r := by first | (rw [hy114]; with_reducible exact H) | (have H2_ := (Option.bind_some _ _).symm.trans H; rw [hy114]; with_reducible exact H2_) | (have H2_ := (Option.bind_some _ _).symm.trans H; with_reducible exact H2_) | with_reducible exact H | (rw [hy114]; exact H) | exact H
 have Ny114 := Aside0.mk hy114
 clear hy114
 obtain rfl := Option.some.inj H
 go_enter Try.func15, Try.ntmps15
 go_wp2_with (first | ((with_reducible refine gate_dst (N := 3) rfl ?_); refine Kd.R_lit (Kd.int .i64) _ 3 ?hg (N := 3) ?hd (xs := ([] : List Int)) (inner := []) (ok := fun _ => True) (okp := fun _ => True) ?hr ?hp (fun _ hk => hk) trivial (Below.refl _ _) (Nat.le_refl _) (by simp) ?_; (case hd => rfl); (case hg => rfl); (case hr => first | (go_simp; done) | (go_simp; rfl)); (case hp => exact (Reps.none _ _)); intro v112 w3 ho4 hb hg_ hnew_; clear hg_ hnew_; (first | rw [← Ny111.out] at ho4 | (simp only [Int.reduceToNat] at ho4; rw [← Ny111.out] at ho4)); have n0_ := Aside0.mk (Kd.R_lower ho4 (below_size (bw HB.out))); have n1_ := Aside0.mk (below_step (bw HB.out) hb); have HO113 := n0_; replace HB := n1_; clear n0_ n1_; clear hb ho4) | ((with_reducible refine gate_builtin (b := .append) (xs := #[.tmp 3, .tmp 4]) rfl ?_); at_builtin; refine Kd.R_append_rows (Kd.int .i64) (w0 := w) w.heap.size rfl (.tmp 3) (.tmp 4) 24 3 (.int .i64 0) 8 rfl Try.underlying24 info3 rfl (by decide) (by omega) v112 y111 l0 _ _ _ (fun _ => True) (fun _ => False) rfl rfl ?aO ?aR (fun _ _ h => h) (fun _ h => h.elim) ?aF ?aB ?aS ?aL ?_; (case aR => first | exact bC HR0.out HB.out | exact Kd.C_below HR0.out HB.out); (case aB => exact (bw HB.out)); (case aF => exact (fun _ _ => trivial)); (case aO => exact (bR HO113.out)); (case aS => exact (below_size (bw HB.out))); (case aL => have := LMc2.out; omega); intro v115 w5 ho hb hg hat; rw [← Ny114.out] at ho; have n0_ := Aside0.mk (hb); have n1_ := Aside0.mk (ho); clear HO113; replace HB := n0_; have HO116 := n1_; clear n0_ n1_; clear ho hb hg hat))
 go_ret
 exact ⟨_, by first | rfl | (simp [errW_none, errW_some] <;> rfl) | (simp [*, errW_none, errW_some] <;> rfl), by (with_reducible repeat (first | apply Kd.R_alloc | apply Kd.R_drewN | apply Kd.R_drew)); exact HO116.out, bw HB.out⟩

/-! ### spec_l3Gap: function 33 -/
abbrev q33_0 : Array Bool := ⟨rl_ [12] false⟩
abbrev q33_7 : Array Bool := ⟨rl_ [7, 5] true⟩
abbrev q33_8 : Array Bool := ⟨rl_ [8, 4] true⟩
abbrev q33_9 : Array Bool := ⟨rl_ [10, 2] true⟩
abbrev q33_10 : Array Bool := ⟨rl_ [9, 3] true⟩
abbrev q33_11 : Array Bool := ⟨rl_ [8, 1, 1, 2] true⟩
abbrev q33_12 : Array Bool := ⟨rl_ [11, 1] true⟩
abbrev q33_13 : Array Bool := ⟨rl_ [12] true⟩
def spec_l3Gap.f (l0 : List (S42)) (a1 : Int) (a2 : Int) (a3 : Int) : Option (Int) := if 0 ≤ a2 then (if a2 < (l0.length : Int) then (if 0 ≤ a3 then (if a3 < (l0.length : Int) then (if a1 = 1 then (some (wrap64 (((rd_T42 l0 a2).f2) - ((rd_T42 l0 a3).f2)))) else (if a1 = 2 then (some (wrap64 (((rd_T42 l0 a2).f0) - ((rd_T42 l0 a3).f0)))) else (if a1 = 3 then (some (wrap64 ((wrap64 (((rd_T42 l0 a2).f0) * ((rd_T42 l0 a3).f1))) - (wrap64 (((rd_T42 l0 a3).f0) * ((rd_T42 l0 a2).f1)))))) else (some (wrap64 (((rd_T42 l0 a2).f3) - ((rd_T42 l0 a3).f3))))))) else (none)) else (none)) else (none)) else (none)
def spec_l3Gap.T1 : Bool × List (List Nat × List Nat) := (true, [([], []), ([], []), ([0, 1], [0, 1]), ([2], [2]), ([], []), ([], []), ([4, 5], [4, 5]), ([6], [6]), ([], []), ([], []), ([8, 3, 0, 1, 2, 3, 8, 9], [3, 8]), ([9, 7, 10, 0, 1, 2, 3, 4, 5, 6, 7, 8, 9, 10], [7, 9])])
def spec_l3Gap.B1 : List Nat := [0, 0, 3, 7, 0, 0, 48, 112, 0, 0, 783, 2047]
theorem spec_l3Gap.tab1 : rtab .any (opsOf Try.f33 1) = spec_l3Gap.T1 := by kernel_rfl
theorem spec_l3Gap.bits1 : waitsOk spec_l3Gap.T1.2 spec_l3Gap.B1 = true := by kernel_rfl
set_option maxHeartbeats 8000000 in
set_option maxRecDepth 100000 in
theorem spec_l3Gap.calls (A0 : Option Addr) (c0 : Nat) (l0 : List (S42)) (a1 : Int) (a2 : Int) (a3 : Int) (r : Int) (w : World) (hr0 : Kd.C k42 w A0 l0.length l0) (hc0 : l0.length ≤ c0) (h : spec_l3Gap.f l0 a1 a2 a3 = some r) :
  Calls Try.prog 33 #[.slice A0 l0.length c0, .int .i64 a1, .int .i64 a2, .int .i64 a3] w fun e w' => e = .returned (.int .i64 r) ∧ Below w.heap.size w w' := by
 have hu42 := Try.underlying42
 have HR0 := Aside0.mk hr0
 have HC0 := Aside0.mk hc0
 clear hr0 hc0
 have HB := Aside0.mk (Below.refl w.heap.size w)
 have H : (if 0 ≤ a2 then (if a2 < (l0.length : Int) then (if 0 ≤ a3 then (if a3 < (l0.length : Int) then (if a1 = 1 then (some (wrap64 (((rd_T42 l0 a2).f2) - ((rd_T42 l0 a3).f2)))) else (if a1 = 2 then (some (wrap64 (((rd_T42 l0 a2).f0) - ((rd_T42 l0 a3).f0)))) else (if a1 = 3 then (some (wrap64 ((wrap64 (((rd_T42 l0 a2).f0) * ((rd_T42 l0 a3).f1))) - (wrap64 (((rd_T42 l0 a3).f0) * ((rd_T42 l0 a2).f1)))))) else (some (wrap64 (((rd_T42 l0 a2).f3) - ((rd_T42 l0 a3).f3))))))) else (none)) else (none)) else (none)) else (none)) = some r := h
 clear h
 by_cases c5 : 0 ≤ a2
 rotate_left
 ·rw [if_neg c5] at H
  exact absurd H (by simp)
 rw [if_pos c5] at H
 have c5b0 : decide (0 ≤ a2) = true := decide_eq_true c5
 clear c5
 by_cases c6 : a2 < (l0.length : Int)
 rotate_left
 ·rw [if_neg c6] at H
  exact absurd H (by simp)
 rw [if_pos c6] at H
 have c6b0 : decide (a2 < (l0.length : Int)) = true := decide_eq_true c6
 clear c6
 by_cases c7 : 0 ≤ a3
 rotate_left
 ·rw [if_neg c7] at H
  exact absurd H (by simp)
 rw [if_pos c7] at H
 have c7b0 : decide (0 ≤ a3) = true := decide_eq_true c7
 clear c7
 by_cases c8 : a3 < (l0.length : Int)
 rotate_left
 ·rw [if_neg c8] at H
  exact absurd H (by simp)
 rw [if_pos c8] at H
 have c8b0 : decide (a3 < (l0.length : Int)) = true := decide_eq_true c8
 clear c8
 by_cases c9 : a1 = 1
 ·rw [if_pos c9] at H
  have c9b0 : (a1 == 1) = true := beq_iff_eq.mpr c9
  have c9b1 : (a1 != 1) = false := bne_eq_false_iff_eq.mpr c9
  clear c9
  obtain rfl := Option.some.inj H
  go_enter Try.func33, Try.ntmps33
  try go_wp2
  have n0_ := Aside0.mk (below_drew1 HB.out)
  replace HB := n0_
  clear n0_
  have p117 : 0 ≤ (a2 : Int) := of_decide_eq_true (by first | (with_reducible assumption) | assumption)
  have q117 : a2 < (l0.length : Int) := of_decide_eq_true (by first | (with_reducible assumption) | assumption)
  obtain ⟨ad117, e117, hx117_0, hx117_1, hx117_2, hx117_3⟩ := at_T42 HR0.out a2 p117 q117
  have hw117_3 := hx117_3
  have hw117_2 := hx117_2
  have hw117_1 := hx117_1
  have hw117_0 := hx117_0
  cases e117
  replace hx117_0 := (HB.out.cell (World.block_lt_of_cell? w _ hx117_0)).trans hx117_0
  replace hx117_1 := (HB.out.cell (World.block_lt_of_cell? w _ hx117_1)).trans hx117_1
  replace hx117_2 := (HB.out.cell (World.block_lt_of_cell? w _ hx117_2)).trans hx117_2
  replace hx117_3 := (HB.out.cell (World.block_lt_of_cell? w _ hx117_3)).trans hx117_3
  replace p117 := eq_true p117
  replace q117 := eq_true q117
  have p118 : 0 ≤ (a3 : Int) := of_decide_eq_true (by first | (with_reducible assumption) | assumption)
  have q118 : a3 < (l0.length : Int) := of_decide_eq_true (by first | (with_reducible assumption) | assumption)
  obtain ⟨ad118, e118, hx118_0, hx118_1, hx118_2, hx118_3⟩ := at_T42 HR0.out a3 p118 q118
  have hw118_3 := hx118_3
  have hw118_2 := hx118_2
  have hw118_1 := hx118_1
  have hw118_0 := hx118_0
  obtain rfl : ad117 = ad118 := (by injection e118)
  replace hx118_0 := (HB.out.cell (World.block_lt_of_cell? w _ hx118_0)).trans hx118_0
  replace hx118_1 := (HB.out.cell (World.block_lt_of_cell? w _ hx118_1)).trans hx118_1
  replace hx118_2 := (HB.out.cell (World.block_lt_of_cell? w _ hx118_2)).trans hx118_2
  replace hx118_3 := (HB.out.cell (World.block_lt_of_cell? w _ hx118_3)).trans hx118_3
  replace p118 := eq_true p118
  replace q118 := eq_true q118
  refine start_ (n := 12) (S := fun w' => w'.cell? (ad117.add ((a2).toNat * 4)) = some (.int .i64 ((rd_T42 l0 a2).f0)) ∧ w'.cell? ⟨(ad117.add ((a2).toNat * 4)).block, (ad117.add ((a2).toNat * 4)).off + 1, none⟩ = some (.int .i64 ((rd_T42 l0 a2).f1)) ∧ w'.cell? ⟨(ad117.add ((a2).toNat * 4)).block, (ad117.add ((a2).toNat * 4)).off + 2, none⟩ = some (.int .i64 ((rd_T42 l0 a2).f2)) ∧ w'.cell? ⟨(ad117.add ((a2).toNat * 4)).block, (ad117.add ((a2).toNat * 4)).off + 3, none⟩ = some (.int .i64 ((rd_T42 l0 a2).f3)) ∧ w'.cell? (ad117.add ((a3).toNat * 4)) = some (.int .i64 ((rd_T42 l0 a3).f0)) ∧ w'.cell? ⟨(ad117.add ((a3).toNat * 4)).block, (ad117.add ((a3).toNat * 4)).off + 1, none⟩ = some (.int .i64 ((rd_T42 l0 a3).f1)) ∧ w'.cell? ⟨(ad117.add ((a3).toNat * 4)).block, (ad117.add ((a3).toNat * 4)).off + 2, none⟩ = some (.int .i64 ((rd_T42 l0 a3).f2)) ∧ w'.cell? ⟨(ad117.add ((a3).toNat * 4)).block, (ad117.add ((a3).toNat * 4)).off + 3, none⟩ = some (.int .i64 ((rd_T42 l0 a3).f3))) (ds := []) q33_0 (by kernel_rfl) rfl rfl ⟨(bcl_ HB.out hw117_0 :), (bcl_ HB.out hw117_1 :), (bcl_ HB.out hw117_2 :), (bcl_ HB.out hw117_3 :), (bcl_ HB.out hw118_0 :), (bcl_ HB.out hw118_1 :), (bcl_ HB.out hw118_2 :), (bcl_ HB.out hw118_3 :)⟩ (fun hHeld => ?_); refine with_tabW spec_l3Gap.tab1 spec_l3Gap.bits1 (fun HT_ HW_ => ?_)
  generalize w.drew = w10 at HB hx117_0 hx117_1 hx117_2 hx117_3 hx118_0 hx118_1 hx118_2 hx118_3 hHeld ⊢
  refine pup_ (i := 0) (N := some 11) HT_ rfl rfl (by kernel_rfl) (fun _ _ _ h => h) (Or.inl ⟨by rfl, by intro w'; go_simp; with_reducible rfl⟩) (by simp only [aq_]; rfl) ?_
  refine pup_ (i := 1) (N := some 12) HT_ rfl rfl (by kernel_rfl) (fun _ _ _ h => h) (Or.inl ⟨by rfl, by intro w'; go_simp; with_reducible rfl⟩) (by simp only [aq_]; rfl) ?_
  refine pup_ (i := 2) (N := some 13) HT_ rfl rfl (by kernel_rfl) (fun _ _ _ h => h) (Or.inl ⟨by rfl, by intro w'; go_simp; with_reducible rfl⟩) (by simp only [aq_]; rfl) ?_
  refine pup_ (i := 4) (N := some 15) HT_ rfl rfl (by kernel_rfl) (fun _ _ _ h => h) (Or.inl ⟨by rfl, by intro w'; go_simp; with_reducible rfl⟩) (by simp only [aq_]; rfl) ?_
  refine pup_ (i := 5) (N := some 16) HT_ rfl rfl (by kernel_rfl) (fun _ _ _ h => h) (Or.inl ⟨by rfl, by intro w'; go_simp; with_reducible rfl⟩) (by simp only [aq_]; rfl) ?_
  refine pup_ (i := 6) (N := some 17) HT_ rfl rfl (by kernel_rfl) (fun _ _ _ h => h) (Or.inl ⟨by rfl, by intro w'; go_simp; with_reducible rfl⟩) (by simp only [aq_]; rfl) ?_
  refine take_ (i := 3) (N := some 14) (v := ?_) (a' := ?_) q33_7 rfl rfl (take_ofW HT_.out HW_.out (by kernel_rfl)) (fun _ _ _ h => h) (Or.inl ⟨by rfl, ?_⟩) hHeld ?_ ?_
  rotate_left
  ·rintro w' ⟨s0, s1, s2, s3, s4, s5, s6, s7⟩
   go_simp
   with_reducible rfl
  rotate_left
  ·simp only [aq_]
   rfl
  refine take_ (i := 7) (N := some 18) (v := ?_) (a' := ?_) q33_8 rfl rfl (take_ofW HT_.out HW_.out (by kernel_rfl)) (fun _ _ _ h => h) (Or.inl ⟨by rfl, ?_⟩) hHeld ?_ ?_
  rotate_left
  ·rintro w' ⟨s0, s1, s2, s3, s4, s5, s6, s7⟩
   go_simp
   with_reducible rfl
  rotate_left
  ·simp only [aq_]
   rfl
  refine join_ (σ := Nat × Nat) 2 q33_9 (fun s_ => [(9, .pointer (some ⟨s_.1, 0, none⟩)), (10, .pointer (some ⟨s_.2, 0, none⟩))]) (fun s_ w' => (w'.cell? (ad117.add ((a2).toNat * 4)) = some (.int .i64 ((rd_T42 l0 a2).f0)) ∧ w'.cell? ⟨(ad117.add ((a2).toNat * 4)).block, (ad117.add ((a2).toNat * 4)).off + 1, none⟩ = some (.int .i64 ((rd_T42 l0 a2).f1)) ∧ w'.cell? ⟨(ad117.add ((a2).toNat * 4)).block, (ad117.add ((a2).toNat * 4)).off + 2, none⟩ = some (.int .i64 ((rd_T42 l0 a2).f2)) ∧ w'.cell? ⟨(ad117.add ((a2).toNat * 4)).block, (ad117.add ((a2).toNat * 4)).off + 3, none⟩ = some (.int .i64 ((rd_T42 l0 a2).f3)) ∧ w'.cell? (ad117.add ((a3).toNat * 4)) = some (.int .i64 ((rd_T42 l0 a3).f0)) ∧ w'.cell? ⟨(ad117.add ((a3).toNat * 4)).block, (ad117.add ((a3).toNat * 4)).off + 1, none⟩ = some (.int .i64 ((rd_T42 l0 a3).f1)) ∧ w'.cell? ⟨(ad117.add ((a3).toNat * 4)).block, (ad117.add ((a3).toNat * 4)).off + 2, none⟩ = some (.int .i64 ((rd_T42 l0 a3).f2)) ∧ w'.cell? ⟨(ad117.add ((a3).toNat * 4)).block, (ad117.add ((a3).toNat * 4)).off + 3, none⟩ = some (.int .i64 ((rd_T42 l0 a3).f3))) ∧ (w'.heap[s_.1]? = some (.cells #[.int .i64 0, .int .i64 0, .int .i64 0, .int .i64 0] 42 (0, 0))) ∧ (w'.heap[s_.2]? = some (.cells #[.int .i64 0, .int .i64 0, .int .i64 0, .int .i64 0] 42 (0, 0))) ∧ (w.heap.size ≤ s_.1) ∧ (w.heap.size ≤ s_.1) ∧ (s_.2 ≠ s_.1) ∧ (s_.1 ≠ s_.2) ∧ (w.heap.size ≤ s_.2) ∧ (w.heap.size ≤ s_.2) ∧ (Below w.heap.size w w')) ?_ ?_
  rotate_left
  ·intro hCont
   refine two_ (i := 8) (j := 9) (Ni := some 9) (Nj := some 10) q33_10 q33_11 rfl rfl rfl rfl (two_of HT_.out (by kernel_rfl)) (by decide) (by decide) (fun K hK => ?_) (fun K hK => ?_)
   ·skip
    refine box_step ?hg (N := 9) ?hd (cs := #[.int .i64 0, .int .i64 0, .int .i64 0, .int .i64 0]) (t := 42) ?hr ?_; (case hd => rfl); (case hg => rfl); (case hr => first | (go_simp; done) | (go_simp; rfl))
    intro gb119 hg w11 hbox hb
    have n0_ := Aside0.mk (below_step (bw HB.out) hb)
    have n1_ := Aside0.mk (hbox)
    have n2_ := ge_ hg HB.out
    have n3_ := ge_ hg HB.out
    replace HB := n0_
    have BK119 := n1_
    have GW119 := n2_
    have GE119 := n3_
    clear n0_ n1_ n2_ n3_
    clear hb hbox hg
    refine hK.out _ _ ⟨(bcl_ HB.out hw117_0 :), (bcl_ HB.out hw117_1 :), (bcl_ HB.out hw117_2 :), (bcl_ HB.out hw117_3 :), (bcl_ HB.out hw118_0 :), (bcl_ HB.out hw118_1 :), (bcl_ HB.out hw118_2 :), (bcl_ HB.out hw118_3 :)⟩ (fun hHeld => ?_)
    clear hK K
    refine norm_ (a' := ?_) ?_ ?_
    rotate_left
    ·show Act.put _ (some 9) _ = _
     simp only [aq_]
     rfl
    refine one_ (i := 9) (N := some 10) q33_9 rfl rfl (one_of HT_.out (by kernel_rfl)) (by decide) (fun K hK => ?_)
    refine box_step ?hg (N := 10) ?hd (cs := #[.int .i64 0, .int .i64 0, .int .i64 0, .int .i64 0]) (t := 42) ?hr ?_; (case hd => rfl); (case hg => rfl); (case hr => first | (go_simp; done) | (go_simp; rfl))
    intro gb120 hg w12 hbox hb
    have n0_ := Aside0.mk (blk_below (bs BK119.out) hb)
    have n1_ := Aside0.mk (below_step (by repeat (first | (with_reducible first | exact bw HB.out | refine bset ?_ | apply bA | apply bN | apply bD) | exact HB.out)) hb)
    have n2_ := Aside0.mk (hbox)
    have n3_ := Aside0.mk ((by rw [hg]; exact (below_size (by repeat (first | (with_reducible first | exact bw HB.out | refine bset ?_ | apply bA | apply bN | apply bD) | exact HB.out))) : w.heap.size ≤ gb120))
    have n4_ := Aside0.mk ((by rw [hg]; exact (below_size (by repeat (first | (with_reducible first | exact bw HB.out | refine bset ?_ | apply bA | apply bN | apply bD) | exact HB.out))) : w.heap.size ≤ gb120))
    have n5_ := ne_ hg BK119.out
    have n6_ := en_ hg BK119.out
    replace BK119 := n0_
    replace HB := n1_
    have BK120 := n2_
    have GW120 := n3_
    have GE120 := n4_
    have NB119_120 := n5_
    have NB120_119 := n6_
    clear n0_ n1_ n2_ n3_ n4_ n5_ n6_
    clear hb hbox hg
    refine hK.out _ _ ⟨(bcl_ HB.out hw117_0 :), (bcl_ HB.out hw117_1 :), (bcl_ HB.out hw117_2 :), (bcl_ HB.out hw117_3 :), (bcl_ HB.out hw118_0 :), (bcl_ HB.out hw118_1 :), (bcl_ HB.out hw118_2 :), (bcl_ HB.out hw118_3 :)⟩ (fun hHeld => ?_)
    clear hK K
    refine norm_ (a' := ?_) ?_ ?_
    rotate_left
    ·show Act.put _ (some 10) _ = _
     simp only [aq_]
     rfl
    exact norm_ (by simp only [putAll, Act.put, List.setIfInBounds_toArray, List.set_cons_zero, List.set_cons_succ]) (hCont (gb119, gb120) _ ⟨hHeld, (bs BK119.out), (bs BK120.out), GW119.out, GE119.out, NB120_119.out, NB119_120.out, GW120.out, GE120.out, (by repeat (first | (with_reducible first | exact bw HB.out | refine bset ?_ | apply bA | apply bN | apply bD) | exact HB.out))⟩)
   ·skip
    refine box_step ?hg (N := 10) ?hd (cs := #[.int .i64 0, .int .i64 0, .int .i64 0, .int .i64 0]) (t := 42) ?hr ?_; (case hd => rfl); (case hg => rfl); (case hr => first | (go_simp; done) | (go_simp; rfl))
    intro gb120 hg w11 hbox hb
    have n0_ := Aside0.mk (below_step (bw HB.out) hb)
    have n1_ := Aside0.mk (hbox)
    have n2_ := ge_ hg HB.out
    have n3_ := ge_ hg HB.out
    replace HB := n0_
    have BK120 := n1_
    have GW120 := n2_
    have GE120 := n3_
    clear n0_ n1_ n2_ n3_
    clear hb hbox hg
    refine hK.out _ _ ⟨(bcl_ HB.out hw117_0 :), (bcl_ HB.out hw117_1 :), (bcl_ HB.out hw117_2 :), (bcl_ HB.out hw117_3 :), (bcl_ HB.out hw118_0 :), (bcl_ HB.out hw118_1 :), (bcl_ HB.out hw118_2 :), (bcl_ HB.out hw118_3 :)⟩ (fun hHeld => ?_)
    clear hK K
    refine norm_ (a' := ?_) ?_ ?_
    rotate_left
    ·show Act.put _ (some 10) _ = _
     simp only [aq_]
     rfl
    refine one_ (i := 8) (N := some 9) q33_9 rfl rfl (one_of HT_.out (by kernel_rfl)) (by decide) (fun K hK => ?_)
    refine box_step ?hg (N := 9) ?hd (cs := #[.int .i64 0, .int .i64 0, .int .i64 0, .int .i64 0]) (t := 42) ?hr ?_; (case hd => rfl); (case hg => rfl); (case hr => first | (go_simp; done) | (go_simp; rfl))
    intro gb119 hg w12 hbox hb
    have n0_ := Aside0.mk (blk_below (bs BK120.out) hb)
    have n1_ := Aside0.mk (below_step (by repeat (first | (with_reducible first | exact bw HB.out | refine bset ?_ | apply bA | apply bN | apply bD) | exact HB.out)) hb)
    have n2_ := Aside0.mk (hbox)
    have n3_ := Aside0.mk ((by rw [hg]; exact (below_size (by repeat (first | (with_reducible first | exact bw HB.out | refine bset ?_ | apply bA | apply bN | apply bD) | exact HB.out))) : w.heap.size ≤ gb119))
    have n4_ := Aside0.mk ((by rw [hg]; exact (below_size (by repeat (first | (with_reducible first | exact bw HB.out | refine bset ?_ | apply bA | apply bN | apply bD) | exact HB.out))) : w.heap.size ≤ gb119))
    have n5_ := ne_ hg BK120.out
    have n6_ := en_ hg BK120.out
    replace BK120 := n0_
    replace HB := n1_
    have BK119 := n2_
    have GW119 := n3_
    have GE119 := n4_
    have NB120_119 := n5_
    have NB119_120 := n6_
    clear n0_ n1_ n2_ n3_ n4_ n5_ n6_
    clear hb hbox hg
    refine hK.out _ _ ⟨(bcl_ HB.out hw117_0 :), (bcl_ HB.out hw117_1 :), (bcl_ HB.out hw117_2 :), (bcl_ HB.out hw117_3 :), (bcl_ HB.out hw118_0 :), (bcl_ HB.out hw118_1 :), (bcl_ HB.out hw118_2 :), (bcl_ HB.out hw118_3 :)⟩ (fun hHeld => ?_)
    clear hK K
    refine norm_ (a' := ?_) ?_ ?_
    rotate_left
    ·show Act.put _ (some 9) _ = _
     simp only [aq_]
     rfl
    exact norm_ (by simp only [putAll, Act.put, List.setIfInBounds_toArray, List.set_cons_zero, List.set_cons_succ]) (hCont (gb119, gb120) _ ⟨hHeld, (bs BK119.out), (bs BK120.out), GW119.out, GE119.out, NB120_119.out, NB119_120.out, GW120.out, GE120.out, (by repeat (first | (with_reducible first | exact bw HB.out | refine bset ?_ | apply bA | apply bN | apply bD) | exact HB.out))⟩)
  rintro ⟨gb119, gb120⟩ w13 ⟨hS_, h0_, h1_, h2_, h3_, h4_, h5_, h6_, h7_, h8_⟩
  have n0_ : Aside0 (w13.heap[gb119]? = some (.cells #[.int .i64 0, .int .i64 0, .int .i64 0, .int .i64 0] 42 (0, 0))) := ⟨h0_⟩
  have n1_ : Aside0 (w13.heap[gb120]? = some (.cells #[.int .i64 0, .int .i64 0, .int .i64 0, .int .i64 0] 42 (0, 0))) := ⟨h1_⟩
  have n2_ : Aside0 (w.heap.size ≤ gb119) := ⟨h2_⟩
  have n3_ : Aside0 (w.heap.size ≤ gb119) := ⟨h3_⟩
  have n4_ : Aside0 (gb120 ≠ gb119) := ⟨h4_⟩
  have n5_ : Aside0 (gb119 ≠ gb120) := ⟨h5_⟩
  have n6_ : Aside0 (w.heap.size ≤ gb120) := ⟨h6_⟩
  have n7_ : Aside0 (w.heap.size ≤ gb120) := ⟨h7_⟩
  have n8_ : Aside0 (Below w.heap.size w w13) := ⟨h8_⟩
  clear HB
  clear h0_ h1_ h2_ h3_ h4_ h5_ h6_ h7_ h8_
  have BK119 := n0_
  have BK120 := n1_
  have GW119 := n2_
  have GE119 := n3_
  have NB120_119 := n4_
  have NB119_120 := n5_
  have GW120 := n6_
  have GE120 := n7_
  have HB := n8_
  clear n0_ n1_ n2_ n3_ n4_ n5_ n6_ n7_ n8_
  have hHeld : w13.cell? (ad117.add ((a2).toNat * 4)) = some (.int .i64 ((rd_T42 l0 a2).f0)) ∧ w13.cell? ⟨(ad117.add ((a2).toNat * 4)).block, (ad117.add ((a2).toNat * 4)).off + 1, none⟩ = some (.int .i64 ((rd_T42 l0 a2).f1)) ∧ w13.cell? ⟨(ad117.add ((a2).toNat * 4)).block, (ad117.add ((a2).toNat * 4)).off + 2, none⟩ = some (.int .i64 ((rd_T42 l0 a2).f2)) ∧ w13.cell? ⟨(ad117.add ((a2).toNat * 4)).block, (ad117.add ((a2).toNat * 4)).off + 3, none⟩ = some (.int .i64 ((rd_T42 l0 a2).f3)) ∧ w13.cell? (ad117.add ((a3).toNat * 4)) = some (.int .i64 ((rd_T42 l0 a3).f0)) ∧ w13.cell? ⟨(ad117.add ((a3).toNat * 4)).block, (ad117.add ((a3).toNat * 4)).off + 1, none⟩ = some (.int .i64 ((rd_T42 l0 a3).f1)) ∧ w13.cell? ⟨(ad117.add ((a3).toNat * 4)).block, (ad117.add ((a3).toNat * 4)).off + 2, none⟩ = some (.int .i64 ((rd_T42 l0 a3).f2)) ∧ w13.cell? ⟨(ad117.add ((a3).toNat * 4)).block, (ad117.add ((a3).toNat * 4)).off + 3, none⟩ = some (.int .i64 ((rd_T42 l0 a3).f3)) := hS_
  refine norm_ (a' := ?_) ?_ ?_
  rotate_left
  ·simp only [putAll, Act.put, List.setIfInBounds_toArray, List.set_cons_zero, List.set_cons_succ]
   rfl
  refine one_ (i := 10) (N := none) q33_12 rfl rfl (one_of HT_.out (by kernel_rfl)) (by decide) (fun K hK => ?_)
  have hs14 : w13.cell? ⟨gb119, 0, none⟩ = some (.int .i64 0) := (blk_cell BK119.out 0).trans rfl
  have hfs14 := blk_frozen BK119.out 0
  have hns14_1 := NB120_119.out
  have hms14_1 := NB119_120.out
  have hs15 : w13.cell? ⟨gb119, 1, none⟩ = some (.int .i64 0) := (blk_cell BK119.out 1).trans rfl
  have hfs15 := blk_frozen BK119.out 1
  have hns15_1 := NB120_119.out
  have hms15_1 := NB119_120.out
  have hs16 : w13.cell? ⟨gb119, 2, none⟩ = some (.int .i64 0) := (blk_cell BK119.out 2).trans rfl
  have hfs16 := blk_frozen BK119.out 2
  have hns16_1 := NB120_119.out
  have hms16_1 := NB119_120.out
  have hs17 : w13.cell? ⟨gb119, 3, none⟩ = some (.int .i64 0) := (blk_cell BK119.out 3).trans rfl
  have hfs17 := blk_frozen BK119.out 3
  have hns17_1 := NB120_119.out
  have hms17_1 := NB119_120.out
  refine skip_ (w1 := ?_) (by rfl) rfl ?_ ?_
  rotate_left
  ·go_simp
   rfl
  refine hK.out _ _ ⟨((cell_far (p := ⟨gb119, _, none⟩) (bne_ hw117_0 GW119.out) _).trans (((cell_far (p := ⟨gb119, _, none⟩) (bne_ hw117_0 GW119.out) _).trans (((cell_far (p := ⟨gb119, _, none⟩) (bne_ hw117_0 GW119.out) _).trans (((cell_far (p := ⟨gb119, _, none⟩) (bne_ hw117_0 GW119.out) _).trans (hHeld.1)))))))), ((cell_far (p := ⟨gb119, _, none⟩) (bne_ hw117_1 GW119.out) _).trans (((cell_far (p := ⟨gb119, _, none⟩) (bne_ hw117_1 GW119.out) _).trans (((cell_far (p := ⟨gb119, _, none⟩) (bne_ hw117_1 GW119.out) _).trans (((cell_far (p := ⟨gb119, _, none⟩) (bne_ hw117_1 GW119.out) _).trans (hHeld.2.1)))))))), ((cell_far (p := ⟨gb119, _, none⟩) (bne_ hw117_2 GW119.out) _).trans (((cell_far (p := ⟨gb119, _, none⟩) (bne_ hw117_2 GW119.out) _).trans (((cell_far (p := ⟨gb119, _, none⟩) (bne_ hw117_2 GW119.out) _).trans (((cell_far (p := ⟨gb119, _, none⟩) (bne_ hw117_2 GW119.out) _).trans (hHeld.2.2.1)))))))), ((cell_far (p := ⟨gb119, _, none⟩) (bne_ hw117_3 GW119.out) _).trans (((cell_far (p := ⟨gb119, _, none⟩) (bne_ hw117_3 GW119.out) _).trans (((cell_far (p := ⟨gb119, _, none⟩) (bne_ hw117_3 GW119.out) _).trans (((cell_far (p := ⟨gb119, _, none⟩) (bne_ hw117_3 GW119.out) _).trans (hHeld.2.2.2.1)))))))), ((cell_far (p := ⟨gb119, _, none⟩) (bne_ hw118_0 GW119.out) _).trans (((cell_far (p := ⟨gb119, _, none⟩) (bne_ hw118_0 GW119.out) _).trans (((cell_far (p := ⟨gb119, _, none⟩) (bne_ hw118_0 GW119.out) _).trans (((cell_far (p := ⟨gb119, _, none⟩) (bne_ hw118_0 GW119.out) _).trans (hHeld.2.2.2.2.1)))))))), ((cell_far (p := ⟨gb119, _, none⟩) (bne_ hw118_1 GW119.out) _).trans (((cell_far (p := ⟨gb119, _, none⟩) (bne_ hw118_1 GW119.out) _).trans (((cell_far (p := ⟨gb119, _, none⟩) (bne_ hw118_1 GW119.out) _).trans (((cell_far (p := ⟨gb119, _, none⟩) (bne_ hw118_1 GW119.out) _).trans (hHeld.2.2.2.2.2.1)))))))), ((cell_far (p := ⟨gb119, _, none⟩) (bne_ hw118_2 GW119.out) _).trans (((cell_far (p := ⟨gb119, _, none⟩) (bne_ hw118_2 GW119.out) _).trans (((cell_far (p := ⟨gb119, _, none⟩) (bne_ hw118_2 GW119.out) _).trans (((cell_far (p := ⟨gb119, _, none⟩) (bne_ hw118_2 GW119.out) _).trans (hHeld.2.2.2.2.2.2.1)))))))), ((cell_far (p := ⟨gb119, _, none⟩) (bne_ hw118_3 GW119.out) _).trans (((cell_far (p := ⟨gb119, _, none⟩) (bne_ hw118_3 GW119.out) _).trans (((cell_far (p := ⟨gb119, _, none⟩) (bne_ hw118_3 GW119.out) _).trans (((cell_far (p := ⟨gb119, _, none⟩) (bne_ hw118_3 GW119.out) _).trans (hHeld.2.2.2.2.2.2.2))))))))⟩ (fun hHeld => ?_)
  clear hK K
  refine one_ (i := 11) (N := none) q33_13 rfl rfl (one_of HT_.out (by kernel_rfl)) (by decide) (fun K hK => ?_)
  have hs18 : w13.cell? ⟨gb120, 0, none⟩ = some (.int .i64 0) := (blk_cell BK120.out 0).trans rfl
  have hfs18 := blk_frozen BK120.out 0
  have hns18_0 := NB119_120.out
  have hms18_0 := NB120_119.out
  have hs19 : w13.cell? ⟨gb120, 1, none⟩ = some (.int .i64 0) := (blk_cell BK120.out 1).trans rfl
  have hfs19 := blk_frozen BK120.out 1
  have hns19_0 := NB119_120.out
  have hms19_0 := NB120_119.out
  have hs20 : w13.cell? ⟨gb120, 2, none⟩ = some (.int .i64 0) := (blk_cell BK120.out 2).trans rfl
  have hfs20 := blk_frozen BK120.out 2
  have hns20_0 := NB119_120.out
  have hms20_0 := NB120_119.out
  have hs21 : w13.cell? ⟨gb120, 3, none⟩ = some (.int .i64 0) := (blk_cell BK120.out 3).trans rfl
  have hfs21 := blk_frozen BK120.out 3
  have hns21_0 := NB119_120.out
  have hms21_0 := NB120_119.out
  refine skip_ (w1 := ?_) (by rfl) rfl ?_ ?_
  rotate_left
  ·go_simp
   rfl
  refine hK.out _ _ ⟨((cell_far (p := ⟨gb120, _, none⟩) (bne_ hw117_0 GW120.out) _).trans (((cell_far (p := ⟨gb120, _, none⟩) (bne_ hw117_0 GW120.out) _).trans (((cell_far (p := ⟨gb120, _, none⟩) (bne_ hw117_0 GW120.out) _).trans (((cell_far (p := ⟨gb120, _, none⟩) (bne_ hw117_0 GW120.out) _).trans (hHeld.1)))))))), ((cell_far (p := ⟨gb120, _, none⟩) (bne_ hw117_1 GW120.out) _).trans (((cell_far (p := ⟨gb120, _, none⟩) (bne_ hw117_1 GW120.out) _).trans (((cell_far (p := ⟨gb120, _, none⟩) (bne_ hw117_1 GW120.out) _).trans (((cell_far (p := ⟨gb120, _, none⟩) (bne_ hw117_1 GW120.out) _).trans (hHeld.2.1)))))))), ((cell_far (p := ⟨gb120, _, none⟩) (bne_ hw117_2 GW120.out) _).trans (((cell_far (p := ⟨gb120, _, none⟩) (bne_ hw117_2 GW120.out) _).trans (((cell_far (p := ⟨gb120, _, none⟩) (bne_ hw117_2 GW120.out) _).trans (((cell_far (p := ⟨gb120, _, none⟩) (bne_ hw117_2 GW120.out) _).trans (hHeld.2.2.1)))))))), ((cell_far (p := ⟨gb120, _, none⟩) (bne_ hw117_3 GW120.out) _).trans (((cell_far (p := ⟨gb120, _, none⟩) (bne_ hw117_3 GW120.out) _).trans (((cell_far (p := ⟨gb120, _, none⟩) (bne_ hw117_3 GW120.out) _).trans (((cell_far (p := ⟨gb120, _, none⟩) (bne_ hw117_3 GW120.out) _).trans (hHeld.2.2.2.1)))))))), ((cell_far (p := ⟨gb120, _, none⟩) (bne_ hw118_0 GW120.out) _).trans (((cell_far (p := ⟨gb120, _, none⟩) (bne_ hw118_0 GW120.out) _).trans (((cell_far (p := ⟨gb120, _, none⟩) (bne_ hw118_0 GW120.out) _).trans (((cell_far (p := ⟨gb120, _, none⟩) (bne_ hw118_0 GW120.out) _).trans (hHeld.2.2.2.2.1)))))))), ((cell_far (p := ⟨gb120, _, none⟩) (bne_ hw118_1 GW120.out) _).trans (((cell_far (p := ⟨gb120, _, none⟩) (bne_ hw118_1 GW120.out) _).trans (((cell_far (p := ⟨gb120, _, none⟩) (bne_ hw118_1 GW120.out) _).trans (((cell_far (p := ⟨gb120, _, none⟩) (bne_ hw118_1 GW120.out) _).trans (hHeld.2.2.2.2.2.1)))))))), ((cell_far (p := ⟨gb120, _, none⟩) (bne_ hw118_2 GW120.out) _).trans (((cell_far (p := ⟨gb120, _, none⟩) (bne_ hw118_2 GW120.out) _).trans (((cell_far (p := ⟨gb120, _, none⟩) (bne_ hw118_2 GW120.out) _).trans (((cell_far (p := ⟨gb120, _, none⟩) (bne_ hw118_2 GW120.out) _).trans (hHeld.2.2.2.2.2.2.1)))))))), ((cell_far (p := ⟨gb120, _, none⟩) (bne_ hw118_3 GW120.out) _).trans (((cell_far (p := ⟨gb120, _, none⟩) (bne_ hw118_3 GW120.out) _).trans (((cell_far (p := ⟨gb120, _, none⟩) (bne_ hw118_3 GW120.out) _).trans (((cell_far (p := ⟨gb120, _, none⟩) (bne_ hw118_3 GW120.out) _).trans (hHeld.2.2.2.2.2.2.2))))))))⟩ (fun hHeld => ?_)
  clear hK K
  refine done_ (done_of HT_.out (by kernel_rfl)) ?_
  have hnb22 := NB119_120.out
  have hnc22 := NB120_119.out
  obtain ⟨hcz23_0, hcz23_1, hcz23_2, hcz23_3, hfz23_0, hfz23_1, hfz23_2, hfz23_3⟩ := bz4 BK119.out
  obtain ⟨hcz24_0, hcz24_1, hcz24_2, hcz24_3, hfz24_0, hfz24_1, hfz24_2, hfz24_3⟩ := bz4 BK120.out
  try go_wp2
  go_ret
  exact ⟨by first | rfl | (simp [errW_none, errW_some] <;> rfl) | (simp [*, errW_none, errW_some] <;> rfl), by repeat (first | (with_reducible first | exact bw HB.out | refine bset ?_ | apply bA | apply bN | apply bD) | exact HB.out)⟩
 rw [if_neg c9] at H
 have c9b0 : (a1 == 1) = false := beq_eq_false_iff_ne.mpr c9
 have c9b1 : (a1 != 1) = true := bne_iff_ne.mpr c9
 by_cases c25 : a1 = 2
 ·rw [if_pos c25] at H
  have c25b0 : (a1 == 2) = true := beq_iff_eq.mpr c25
  have c25b1 : (a1 != 2) = false := bne_eq_false_iff_eq.mpr c25
  clear c25
  obtain rfl := Option.some.inj H
  go_enter Try.func33, Try.ntmps33
  try go_wp2
  have n0_ := Aside0.mk (below_drew1 HB.out)
  replace HB := n0_
  clear n0_
  have p117 : 0 ≤ (a2 : Int) := of_decide_eq_true (by first | (with_reducible assumption) | assumption)
  have q117 : a2 < (l0.length : Int) := of_decide_eq_true (by first | (with_reducible assumption) | assumption)
  obtain ⟨ad117, e117, hx117_0, hx117_1, hx117_2, hx117_3⟩ := at_T42 HR0.out a2 p117 q117
  have hw117_3 := hx117_3
  have hw117_2 := hx117_2
  have hw117_1 := hx117_1
  have hw117_0 := hx117_0
  cases e117
  replace hx117_0 := (HB.out.cell (World.block_lt_of_cell? w _ hx117_0)).trans hx117_0
  replace hx117_1 := (HB.out.cell (World.block_lt_of_cell? w _ hx117_1)).trans hx117_1
  replace hx117_2 := (HB.out.cell (World.block_lt_of_cell? w _ hx117_2)).trans hx117_2
  replace hx117_3 := (HB.out.cell (World.block_lt_of_cell? w _ hx117_3)).trans hx117_3
  replace p117 := eq_true p117
  replace q117 := eq_true q117
  have p118 : 0 ≤ (a3 : Int) := of_decide_eq_true (by first | (with_reducible assumption) | assumption)
  have q118 : a3 < (l0.length : Int) := of_decide_eq_true (by first | (with_reducible assumption) | assumption)
  obtain ⟨ad118, e118, hx118_0, hx118_1, hx118_2, hx118_3⟩ := at_T42 HR0.out a3 p118 q118
  have hw118_3 := hx118_3
  have hw118_2 := hx118_2
  have hw118_1 := hx118_1
  have hw118_0 := hx118_0
  obtain rfl : ad117 = ad118 := (by injection e118)
  replace hx118_0 := (HB.out.cell (World.block_lt_of_cell? w _ hx118_0)).trans hx118_0
  replace hx118_1 := (HB.out.cell (World.block_lt_of_cell? w _ hx118_1)).trans hx118_1
  replace hx118_2 := (HB.out.cell (World.block_lt_of_cell? w _ hx118_2)).trans hx118_2
  replace hx118_3 := (HB.out.cell (World.block_lt_of_cell? w _ hx118_3)).trans hx118_3
  replace p118 := eq_true p118
  replace q118 := eq_true q118
  refine start_ (n := 12) (S := fun w' => w'.cell? (ad117.add ((a2).toNat * 4)) = some (.int .i64 ((rd_T42 l0 a2).f0)) ∧ w'.cell? ⟨(ad117.add ((a2).toNat * 4)).block, (ad117.add ((a2).toNat * 4)).off + 1, none⟩ = some (.int .i64 ((rd_T42 l0 a2).f1)) ∧ w'.cell? ⟨(ad117.add ((a2).toNat * 4)).block, (ad117.add ((a2).toNat * 4)).off + 2, none⟩ = some (.int .i64 ((rd_T42 l0 a2).f2)) ∧ w'.cell? ⟨(ad117.add ((a2).toNat * 4)).block, (ad117.add ((a2).toNat * 4)).off + 3, none⟩ = some (.int .i64 ((rd_T42 l0 a2).f3)) ∧ w'.cell? (ad117.add ((a3).toNat * 4)) = some (.int .i64 ((rd_T42 l0 a3).f0)) ∧ w'.cell? ⟨(ad117.add ((a3).toNat * 4)).block, (ad117.add ((a3).toNat * 4)).off + 1, none⟩ = some (.int .i64 ((rd_T42 l0 a3).f1)) ∧ w'.cell? ⟨(ad117.add ((a3).toNat * 4)).block, (ad117.add ((a3).toNat * 4)).off + 2, none⟩ = some (.int .i64 ((rd_T42 l0 a3).f2)) ∧ w'.cell? ⟨(ad117.add ((a3).toNat * 4)).block, (ad117.add ((a3).toNat * 4)).off + 3, none⟩ = some (.int .i64 ((rd_T42 l0 a3).f3))) (ds := []) q33_0 (by kernel_rfl) rfl rfl ⟨(bcl_ HB.out hw117_0 :), (bcl_ HB.out hw117_1 :), (bcl_ HB.out hw117_2 :), (bcl_ HB.out hw117_3 :), (bcl_ HB.out hw118_0 :), (bcl_ HB.out hw118_1 :), (bcl_ HB.out hw118_2 :), (bcl_ HB.out hw118_3 :)⟩ (fun hHeld => ?_); refine with_tabW spec_l3Gap.tab1 spec_l3Gap.bits1 (fun HT_ HW_ => ?_)
  generalize w.drew = w26 at HB hx117_0 hx117_1 hx117_2 hx117_3 hx118_0 hx118_1 hx118_2 hx118_3 hHeld ⊢
  refine pup_ (i := 0) (N := some 11) HT_ rfl rfl (by kernel_rfl) (fun _ _ _ h => h) (Or.inl ⟨by rfl, by intro w'; go_simp; with_reducible rfl⟩) (by simp only [aq_]; rfl) ?_
  refine pup_ (i := 1) (N := some 12) HT_ rfl rfl (by kernel_rfl) (fun _ _ _ h => h) (Or.inl ⟨by rfl, by intro w'; go_simp; with_reducible rfl⟩) (by simp only [aq_]; rfl) ?_
  refine pup_ (i := 2) (N := some 13) HT_ rfl rfl (by kernel_rfl) (fun _ _ _ h => h) (Or.inl ⟨by rfl, by intro w'; go_simp; with_reducible rfl⟩) (by simp only [aq_]; rfl) ?_
  refine pup_ (i := 4) (N := some 15) HT_ rfl rfl (by kernel_rfl) (fun _ _ _ h => h) (Or.inl ⟨by rfl, by intro w'; go_simp; with_reducible rfl⟩) (by simp only [aq_]; rfl) ?_
  refine pup_ (i := 5) (N := some 16) HT_ rfl rfl (by kernel_rfl) (fun _ _ _ h => h) (Or.inl ⟨by rfl, by intro w'; go_simp; with_reducible rfl⟩) (by simp only [aq_]; rfl) ?_
  refine pup_ (i := 6) (N := some 17) HT_ rfl rfl (by kernel_rfl) (fun _ _ _ h => h) (Or.inl ⟨by rfl, by intro w'; go_simp; with_reducible rfl⟩) (by simp only [aq_]; rfl) ?_
  refine take_ (i := 3) (N := some 14) (v := ?_) (a' := ?_) q33_7 rfl rfl (take_ofW HT_.out HW_.out (by kernel_rfl)) (fun _ _ _ h => h) (Or.inl ⟨by rfl, ?_⟩) hHeld ?_ ?_
  rotate_left
  ·rintro w' ⟨s0, s1, s2, s3, s4, s5, s6, s7⟩
   go_simp
   with_reducible rfl
  rotate_left
  ·simp only [aq_]
   rfl
  refine take_ (i := 7) (N := some 18) (v := ?_) (a' := ?_) q33_8 rfl rfl (take_ofW HT_.out HW_.out (by kernel_rfl)) (fun _ _ _ h => h) (Or.inl ⟨by rfl, ?_⟩) hHeld ?_ ?_
  rotate_left
  ·rintro w' ⟨s0, s1, s2, s3, s4, s5, s6, s7⟩
   go_simp
   with_reducible rfl
  rotate_left
  ·simp only [aq_]
   rfl
  refine join_ (σ := Nat × Nat) 2 q33_9 (fun s_ => [(9, .pointer (some ⟨s_.1, 0, none⟩)), (10, .pointer (some ⟨s_.2, 0, none⟩))]) (fun s_ w' => (w'.cell? (ad117.add ((a2).toNat * 4)) = some (.int .i64 ((rd_T42 l0 a2).f0)) ∧ w'.cell? ⟨(ad117.add ((a2).toNat * 4)).block, (ad117.add ((a2).toNat * 4)).off + 1, none⟩ = some (.int .i64 ((rd_T42 l0 a2).f1)) ∧ w'.cell? ⟨(ad117.add ((a2).toNat * 4)).block, (ad117.add ((a2).toNat * 4)).off + 2, none⟩ = some (.int .i64 ((rd_T42 l0 a2).f2)) ∧ w'.cell? ⟨(ad117.add ((a2).toNat * 4)).block, (ad117.add ((a2).toNat * 4)).off + 3, none⟩ = some (.int .i64 ((rd_T42 l0 a2).f3)) ∧ w'.cell? (ad117.add ((a3).toNat * 4)) = some (.int .i64 ((rd_T42 l0 a3).f0)) ∧ w'.cell? ⟨(ad117.add ((a3).toNat * 4)).block, (ad117.add ((a3).toNat * 4)).off + 1, none⟩ = some (.int .i64 ((rd_T42 l0 a3).f1)) ∧ w'.cell? ⟨(ad117.add ((a3).toNat * 4)).block, (ad117.add ((a3).toNat * 4)).off + 2, none⟩ = some (.int .i64 ((rd_T42 l0 a3).f2)) ∧ w'.cell? ⟨(ad117.add ((a3).toNat * 4)).block, (ad117.add ((a3).toNat * 4)).off + 3, none⟩ = some (.int .i64 ((rd_T42 l0 a3).f3))) ∧ (w'.heap[s_.1]? = some (.cells #[.int .i64 0, .int .i64 0, .int .i64 0, .int .i64 0] 42 (0, 0))) ∧ (w'.heap[s_.2]? = some (.cells #[.int .i64 0, .int .i64 0, .int .i64 0, .int .i64 0] 42 (0, 0))) ∧ (w.heap.size ≤ s_.1) ∧ (w.heap.size ≤ s_.1) ∧ (s_.2 ≠ s_.1) ∧ (s_.1 ≠ s_.2) ∧ (w.heap.size ≤ s_.2) ∧ (w.heap.size ≤ s_.2) ∧ (Below w.heap.size w w')) ?_ ?_
  rotate_left
  ·intro hCont
   refine two_ (i := 8) (j := 9) (Ni := some 9) (Nj := some 10) q33_10 q33_11 rfl rfl rfl rfl (two_of HT_.out (by kernel_rfl)) (by decide) (by decide) (fun K hK => ?_) (fun K hK => ?_)
   ·skip
    refine box_step ?hg (N := 9) ?hd (cs := #[.int .i64 0, .int .i64 0, .int .i64 0, .int .i64 0]) (t := 42) ?hr ?_; (case hd => rfl); (case hg => rfl); (case hr => first | (go_simp; done) | (go_simp; rfl))
    intro gb119 hg w27 hbox hb
    have n0_ := Aside0.mk (below_step (bw HB.out) hb)
    have n1_ := Aside0.mk (hbox)
    have n2_ := ge_ hg HB.out
    have n3_ := ge_ hg HB.out
    replace HB := n0_
    have BK119 := n1_
    have GW119 := n2_
    have GE119 := n3_
    clear n0_ n1_ n2_ n3_
    clear hb hbox hg
    refine hK.out _ _ ⟨(bcl_ HB.out hw117_0 :), (bcl_ HB.out hw117_1 :), (bcl_ HB.out hw117_2 :), (bcl_ HB.out hw117_3 :), (bcl_ HB.out hw118_0 :), (bcl_ HB.out hw118_1 :), (bcl_ HB.out hw118_2 :), (bcl_ HB.out hw118_3 :)⟩ (fun hHeld => ?_)
    clear hK K
    refine norm_ (a' := ?_) ?_ ?_
    rotate_left
    ·show Act.put _ (some 9) _ = _
     simp only [aq_]
     rfl
    refine one_ (i := 9) (N := some 10) q33_9 rfl rfl (one_of HT_.out (by kernel_rfl)) (by decide) (fun K hK => ?_)
    refine box_step ?hg (N := 10) ?hd (cs := #[.int .i64 0, .int .i64 0, .int .i64 0, .int .i64 0]) (t := 42) ?hr ?_; (case hd => rfl); (case hg => rfl); (case hr => first | (go_simp; done) | (go_simp; rfl))
    intro gb120 hg w28 hbox hb
    have n0_ := Aside0.mk (blk_below (bs BK119.out) hb)
    have n1_ := Aside0.mk (below_step (by repeat (first | (with_reducible first | exact bw HB.out | refine bset ?_ | apply bA | apply bN | apply bD) | exact HB.out)) hb)
    have n2_ := Aside0.mk (hbox)
    have n3_ := Aside0.mk ((by rw [hg]; exact (below_size (by repeat (first | (with_reducible first | exact bw HB.out | refine bset ?_ | apply bA | apply bN | apply bD) | exact HB.out))) : w.heap.size ≤ gb120))
    have n4_ := Aside0.mk ((by rw [hg]; exact (below_size (by repeat (first | (with_reducible first | exact bw HB.out | refine bset ?_ | apply bA | apply bN | apply bD) | exact HB.out))) : w.heap.size ≤ gb120))
    have n5_ := ne_ hg BK119.out
    have n6_ := en_ hg BK119.out
    replace BK119 := n0_
    replace HB := n1_
    have BK120 := n2_
    have GW120 := n3_
    have GE120 := n4_
    have NB119_120 := n5_
    have NB120_119 := n6_
    clear n0_ n1_ n2_ n3_ n4_ n5_ n6_
    clear hb hbox hg
    refine hK.out _ _ ⟨(bcl_ HB.out hw117_0 :), (bcl_ HB.out hw117_1 :), (bcl_ HB.out hw117_2 :), (bcl_ HB.out hw117_3 :), (bcl_ HB.out hw118_0 :), (bcl_ HB.out hw118_1 :), (bcl_ HB.out hw118_2 :), (bcl_ HB.out hw118_3 :)⟩ (fun hHeld => ?_)
    clear hK K
    refine norm_ (a' := ?_) ?_ ?_
    rotate_left
    ·show Act.put _ (some 10) _ = _
     simp only [aq_]
     rfl
    exact norm_ (by simp only [putAll, Act.put, List.setIfInBounds_toArray, List.set_cons_zero, List.set_cons_succ]) (hCont (gb119, gb120) _ ⟨hHeld, (bs BK119.out), (bs BK120.out), GW119.out, GE119.out, NB120_119.out, NB119_120.out, GW120.out, GE120.out, (by repeat (first | (with_reducible first | exact bw HB.out | refine bset ?_ | apply bA | apply bN | apply bD) | exact HB.out))⟩)
   ·skip
    refine box_step ?hg (N := 10) ?hd (cs := #[.int .i64 0, .int .i64 0, .int .i64 0, .int .i64 0]) (t := 42) ?hr ?_; (case hd => rfl); (case hg => rfl); (case hr => first | (go_simp; done) | (go_simp; rfl))
    intro gb120 hg w27 hbox hb
    have n0_ := Aside0.mk (below_step (bw HB.out) hb)
    have n1_ := Aside0.mk (hbox)
    have n2_ := ge_ hg HB.out
    have n3_ := ge_ hg HB.out
    replace HB := n0_
    have BK120 := n1_
    have GW120 := n2_
    have GE120 := n3_
    clear n0_ n1_ n2_ n3_
    clear hb hbox hg
    refine hK.out _ _ ⟨(bcl_ HB.out hw117_0 :), (bcl_ HB.out hw117_1 :), (bcl_ HB.out hw117_2 :), (bcl_ HB.out hw117_3 :), (bcl_ HB.out hw118_0 :), (bcl_ HB.out hw118_1 :), (bcl_ HB.out hw118_2 :), (bcl_ HB.out hw118_3 :)⟩ (fun hHeld => ?_)
    clear hK K
    refine norm_ (a' := ?_) ?_ ?_
    rotate_left
    ·show Act.put _ (some 10) _ = _
     simp only [aq_]
     rfl
    refine one_ (i := 8) (N := some 9) q33_9 rfl rfl (one_of HT_.out (by kernel_rfl)) (by decide) (fun K hK => ?_)
    refine box_step ?hg (N := 9) ?hd (cs := #[.int .i64 0, .int .i64 0, .int .i64 0, .int .i64 0]) (t := 42) ?hr ?_; (case hd => rfl); (case hg => rfl); (case hr => first | (go_simp; done) | (go_simp; rfl))
    intro gb119 hg w28 hbox hb
    have n0_ := Aside0.mk (blk_below (bs BK120.out) hb)
    have n1_ := Aside0.mk (below_step (by repeat (first | (with_reducible first | exact bw HB.out | refine bset ?_ | apply bA | apply bN | apply bD) | exact HB.out)) hb)
    have n2_ := Aside0.mk (hbox)
    have n3_ := Aside0.mk ((by rw [hg]; exact (below_size (by repeat (first | (with_reducible first | exact bw HB.out | refine bset ?_ | apply bA | apply bN | apply bD) | exact HB.out))) : w.heap.size ≤ gb119))
    have n4_ := Aside0.mk ((by rw [hg]; exact (below_size (by repeat (first | (with_reducible first | exact bw HB.out | refine bset ?_ | apply bA | apply bN | apply bD) | exact HB.out))) : w.heap.size ≤ gb119))
    have n5_ := ne_ hg BK120.out
    have n6_ := en_ hg BK120.out
    replace BK120 := n0_
    replace HB := n1_
    have BK119 := n2_
    have GW119 := n3_
    have GE119 := n4_
    have NB120_119 := n5_
    have NB119_120 := n6_
    clear n0_ n1_ n2_ n3_ n4_ n5_ n6_
    clear hb hbox hg
    refine hK.out _ _ ⟨(bcl_ HB.out hw117_0 :), (bcl_ HB.out hw117_1 :), (bcl_ HB.out hw117_2 :), (bcl_ HB.out hw117_3 :), (bcl_ HB.out hw118_0 :), (bcl_ HB.out hw118_1 :), (bcl_ HB.out hw118_2 :), (bcl_ HB.out hw118_3 :)⟩ (fun hHeld => ?_)
    clear hK K
    refine norm_ (a' := ?_) ?_ ?_
    rotate_left
    ·show Act.put _ (some 9) _ = _
     simp only [aq_]
     rfl
    exact norm_ (by simp only [putAll, Act.put, List.setIfInBounds_toArray, List.set_cons_zero, List.set_cons_succ]) (hCont (gb119, gb120) _ ⟨hHeld, (bs BK119.out), (bs BK120.out), GW119.out, GE119.out, NB120_119.out, NB119_120.out, GW120.out, GE120.out, (by repeat (first | (with_reducible first | exact bw HB.out | refine bset ?_ | apply bA | apply bN | apply bD) | exact HB.out))⟩)
  rintro ⟨gb119, gb120⟩ w29 ⟨hS_, h0_, h1_, h2_, h3_, h4_, h5_, h6_, h7_, h8_⟩
  have n0_ : Aside0 (w29.heap[gb119]? = some (.cells #[.int .i64 0, .int .i64 0, .int .i64 0, .int .i64 0] 42 (0, 0))) := ⟨h0_⟩
  have n1_ : Aside0 (w29.heap[gb120]? = some (.cells #[.int .i64 0, .int .i64 0, .int .i64 0, .int .i64 0] 42 (0, 0))) := ⟨h1_⟩
  have n2_ : Aside0 (w.heap.size ≤ gb119) := ⟨h2_⟩
  have n3_ : Aside0 (w.heap.size ≤ gb119) := ⟨h3_⟩
  have n4_ : Aside0 (gb120 ≠ gb119) := ⟨h4_⟩
  have n5_ : Aside0 (gb119 ≠ gb120) := ⟨h5_⟩
  have n6_ : Aside0 (w.heap.size ≤ gb120) := ⟨h6_⟩
  have n7_ : Aside0 (w.heap.size ≤ gb120) := ⟨h7_⟩
  have n8_ : Aside0 (Below w.heap.size w w29) := ⟨h8_⟩
  clear HB
  clear h0_ h1_ h2_ h3_ h4_ h5_ h6_ h7_ h8_
  have BK119 := n0_
  have BK120 := n1_
  have GW119 := n2_
  have GE119 := n3_
  have NB120_119 := n4_
  have NB119_120 := n5_
  have GW120 := n6_
  have GE120 := n7_
  have HB := n8_
  clear n0_ n1_ n2_ n3_ n4_ n5_ n6_ n7_ n8_
  have hHeld : w29.cell? (ad117.add ((a2).toNat * 4)) = some (.int .i64 ((rd_T42 l0 a2).f0)) ∧ w29.cell? ⟨(ad117.add ((a2).toNat * 4)).block, (ad117.add ((a2).toNat * 4)).off + 1, none⟩ = some (.int .i64 ((rd_T42 l0 a2).f1)) ∧ w29.cell? ⟨(ad117.add ((a2).toNat * 4)).block, (ad117.add ((a2).toNat * 4)).off + 2, none⟩ = some (.int .i64 ((rd_T42 l0 a2).f2)) ∧ w29.cell? ⟨(ad117.add ((a2).toNat * 4)).block, (ad117.add ((a2).toNat * 4)).off + 3, none⟩ = some (.int .i64 ((rd_T42 l0 a2).f3)) ∧ w29.cell? (ad117.add ((a3).toNat * 4)) = some (.int .i64 ((rd_T42 l0 a3).f0)) ∧ w29.cell? ⟨(ad117.add ((a3).toNat * 4)).block, (ad117.add ((a3).toNat * 4)).off + 1, none⟩ = some (.int .i64 ((rd_T42 l0 a3).f1)) ∧ w29.cell? ⟨(ad117.add ((a3).toNat * 4)).block, (ad117.add ((a3).toNat * 4)).off + 2, none⟩ = some (.int .i64 ((rd_T42 l0 a3).f2)) ∧ w29.cell? ⟨(ad117.add ((a3).toNat * 4)).block, (ad117.add ((a3).toNat * 4)).off + 3, none⟩ = some (.int .i64 ((rd_T42 l0 a3).f3)) := hS_
  refine norm_ (a' := ?_) ?_ ?_
  rotate_left
  ·simp only [putAll, Act.put, List.setIfInBounds_toArray, List.set_cons_zero, List.set_cons_succ]
   rfl
  refine one_ (i := 10) (N := none) q33_12 rfl rfl (one_of HT_.out (by kernel_rfl)) (by decide) (fun K hK => ?_)
  have hs30 : w29.cell? ⟨gb119, 0, none⟩ = some (.int .i64 0) := (blk_cell BK119.out 0).trans rfl
  have hfs30 := blk_frozen BK119.out 0
  have hns30_1 := NB120_119.out
  have hms30_1 := NB119_120.out
  have hs31 : w29.cell? ⟨gb119, 1, none⟩ = some (.int .i64 0) := (blk_cell BK119.out 1).trans rfl
  have hfs31 := blk_frozen BK119.out 1
  have hns31_1 := NB120_119.out
  have hms31_1 := NB119_120.out
  have hs32 : w29.cell? ⟨gb119, 2, none⟩ = some (.int .i64 0) := (blk_cell BK119.out 2).trans rfl
  have hfs32 := blk_frozen BK119.out 2
  have hns32_1 := NB120_119.out
  have hms32_1 := NB119_120.out
  have hs33 : w29.cell? ⟨gb119, 3, none⟩ = some (.int .i64 0) := (blk_cell BK119.out 3).trans rfl
  have hfs33 := blk_frozen BK119.out 3
  have hns33_1 := NB120_119.out
  have hms33_1 := NB119_120.out
  refine skip_ (w1 := ?_) (by rfl) rfl ?_ ?_
  rotate_left
  ·go_simp
   rfl
  refine hK.out _ _ ⟨((cell_far (p := ⟨gb119, _, none⟩) (bne_ hw117_0 GW119.out) _).trans (((cell_far (p := ⟨gb119, _, none⟩) (bne_ hw117_0 GW119.out) _).trans (((cell_far (p := ⟨gb119, _, none⟩) (bne_ hw117_0 GW119.out) _).trans (((cell_far (p := ⟨gb119, _, none⟩) (bne_ hw117_0 GW119.out) _).trans (hHeld.1)))))))), ((cell_far (p := ⟨gb119, _, none⟩) (bne_ hw117_1 GW119.out) _).trans (((cell_far (p := ⟨gb119, _, none⟩) (bne_ hw117_1 GW119.out) _).trans (((cell_far (p := ⟨gb119, _, none⟩) (bne_ hw117_1 GW119.out) _).trans (((cell_far (p := ⟨gb119, _, none⟩) (bne_ hw117_1 GW119.out) _).trans (hHeld.2.1)))))))), ((cell_far (p := ⟨gb119, _, none⟩) (bne_ hw117_2 GW119.out) _).trans (((cell_far (p := ⟨gb119, _, none⟩) (bne_ hw117_2 GW119.out) _).trans (((cell_far (p := ⟨gb119, _, none⟩) (bne_ hw117_2 GW119.out) _).trans (((cell_far (p := ⟨gb119, _, none⟩) (bne_ hw117_2 GW119.out) _).trans (hHeld.2.2.1)))))))), ((cell_far (p := ⟨gb119, _, none⟩) (bne_ hw117_3 GW119.out) _).trans (((cell_far (p := ⟨gb119, _, none⟩) (bne_ hw117_3 GW119.out) _).trans (((cell_far (p := ⟨gb119, _, none⟩) (bne_ hw117_3 GW119.out) _).trans (((cell_far (p := ⟨gb119, _, none⟩) (bne_ hw117_3 GW119.out) _).trans (hHeld.2.2.2.1)))))))), ((cell_far (p := ⟨gb119, _, none⟩) (bne_ hw118_0 GW119.out) _).trans (((cell_far (p := ⟨gb119, _, none⟩) (bne_ hw118_0 GW119.out) _).trans (((cell_far (p := ⟨gb119, _, none⟩) (bne_ hw118_0 GW119.out) _).trans (((cell_far (p := ⟨gb119, _, none⟩) (bne_ hw118_0 GW119.out) _).trans (hHeld.2.2.2.2.1)))))))), ((cell_far (p := ⟨gb119, _, none⟩) (bne_ hw118_1 GW119.out) _).trans (((cell_far (p := ⟨gb119, _, none⟩) (bne_ hw118_1 GW119.out) _).trans (((cell_far (p := ⟨gb119, _, none⟩) (bne_ hw118_1 GW119.out) _).trans (((cell_far (p := ⟨gb119, _, none⟩) (bne_ hw118_1 GW119.out) _).trans (hHeld.2.2.2.2.2.1)))))))), ((cell_far (p := ⟨gb119, _, none⟩) (bne_ hw118_2 GW119.out) _).trans (((cell_far (p := ⟨gb119, _, none⟩) (bne_ hw118_2 GW119.out) _).trans (((cell_far (p := ⟨gb119, _, none⟩) (bne_ hw118_2 GW119.out) _).trans (((cell_far (p := ⟨gb119, _, none⟩) (bne_ hw118_2 GW119.out) _).trans (hHeld.2.2.2.2.2.2.1)))))))), ((cell_far (p := ⟨gb119, _, none⟩) (bne_ hw118_3 GW119.out) _).trans (((cell_far (p := ⟨gb119, _, none⟩) (bne_ hw118_3 GW119.out) _).trans (((cell_far (p := ⟨gb119, _, none⟩) (bne_ hw118_3 GW119.out) _).trans (((cell_far (p := ⟨gb119, _, none⟩) (bne_ hw118_3 GW119.out) _).trans (hHeld.2.2.2.2.2.2.2))))))))⟩ (fun hHeld => ?_)
  clear hK K
  refine one_ (i := 11) (N := none) q33_13 rfl rfl (one_of HT_.out (by kernel_rfl)) (by decide) (fun K hK => ?_)
  have hs34 : w29.cell? ⟨gb120, 0, none⟩ = some (.int .i64 0) := (blk_cell BK120.out 0).trans rfl
  have hfs34 := blk_frozen BK120.out 0
  have hns34_0 := NB119_120.out
  have hms34_0 := NB120_119.out
  have hs35 : w29.cell? ⟨gb120, 1, none⟩ = some (.int .i64 0) := (blk_cell BK120.out 1).trans rfl
  have hfs35 := blk_frozen BK120.out 1
  have hns35_0 := NB119_120.out
  have hms35_0 := NB120_119.out
  have hs36 : w29.cell? ⟨gb120, 2, none⟩ = some (.int .i64 0) := (blk_cell BK120.out 2).trans rfl
  have hfs36 := blk_frozen BK120.out 2
  have hns36_0 := NB119_120.out
  have hms36_0 := NB120_119.out
  have hs37 : w29.cell? ⟨gb120, 3, none⟩ = some (.int .i64 0) := (blk_cell BK120.out 3).trans rfl
  have hfs37 := blk_frozen BK120.out 3
  have hns37_0 := NB119_120.out
  have hms37_0 := NB120_119.out
  refine skip_ (w1 := ?_) (by rfl) rfl ?_ ?_
  rotate_left
  ·go_simp
   rfl
  refine hK.out _ _ ⟨((cell_far (p := ⟨gb120, _, none⟩) (bne_ hw117_0 GW120.out) _).trans (((cell_far (p := ⟨gb120, _, none⟩) (bne_ hw117_0 GW120.out) _).trans (((cell_far (p := ⟨gb120, _, none⟩) (bne_ hw117_0 GW120.out) _).trans (((cell_far (p := ⟨gb120, _, none⟩) (bne_ hw117_0 GW120.out) _).trans (hHeld.1)))))))), ((cell_far (p := ⟨gb120, _, none⟩) (bne_ hw117_1 GW120.out) _).trans (((cell_far (p := ⟨gb120, _, none⟩) (bne_ hw117_1 GW120.out) _).trans (((cell_far (p := ⟨gb120, _, none⟩) (bne_ hw117_1 GW120.out) _).trans (((cell_far (p := ⟨gb120, _, none⟩) (bne_ hw117_1 GW120.out) _).trans (hHeld.2.1)))))))), ((cell_far (p := ⟨gb120, _, none⟩) (bne_ hw117_2 GW120.out) _).trans (((cell_far (p := ⟨gb120, _, none⟩) (bne_ hw117_2 GW120.out) _).trans (((cell_far (p := ⟨gb120, _, none⟩) (bne_ hw117_2 GW120.out) _).trans (((cell_far (p := ⟨gb120, _, none⟩) (bne_ hw117_2 GW120.out) _).trans (hHeld.2.2.1)))))))), ((cell_far (p := ⟨gb120, _, none⟩) (bne_ hw117_3 GW120.out) _).trans (((cell_far (p := ⟨gb120, _, none⟩) (bne_ hw117_3 GW120.out) _).trans (((cell_far (p := ⟨gb120, _, none⟩) (bne_ hw117_3 GW120.out) _).trans (((cell_far (p := ⟨gb120, _, none⟩) (bne_ hw117_3 GW120.out) _).trans (hHeld.2.2.2.1)))))))), ((cell_far (p := ⟨gb120, _, none⟩) (bne_ hw118_0 GW120.out) _).trans (((cell_far (p := ⟨gb120, _, none⟩) (bne_ hw118_0 GW120.out) _).trans (((cell_far (p := ⟨gb120, _, none⟩) (bne_ hw118_0 GW120.out) _).trans (((cell_far (p := ⟨gb120, _, none⟩) (bne_ hw118_0 GW120.out) _).trans (hHeld.2.2.2.2.1)))))))), ((cell_far (p := ⟨gb120, _, none⟩) (bne_ hw118_1 GW120.out) _).trans (((cell_far (p := ⟨gb120, _, none⟩) (bne_ hw118_1 GW120.out) _).trans (((cell_far (p := ⟨gb120, _, none⟩) (bne_ hw118_1 GW120.out) _).trans (((cell_far (p := ⟨gb120, _, none⟩) (bne_ hw118_1 GW120.out) _).trans (hHeld.2.2.2.2.2.1)))))))), ((cell_far (p := ⟨gb120, _, none⟩) (bne_ hw118_2 GW120.out) _).trans (((cell_far (p := ⟨gb120, _, none⟩) (bne_ hw118_2 GW120.out) _).trans (((cell_far (p := ⟨gb120, _, none⟩) (bne_ hw118_2 GW120.out) _).trans (((cell_far (p := ⟨gb120, _, none⟩) (bne_ hw118_2 GW120.out) _).trans (hHeld.2.2.2.2.2.2.1)))))))), ((cell_far (p := ⟨gb120, _, none⟩) (bne_ hw118_3 GW120.out) _).trans (((cell_far (p := ⟨gb120, _, none⟩) (bne_ hw118_3 GW120.out) _).trans (((cell_far (p := ⟨gb120, _, none⟩) (bne_ hw118_3 GW120.out) _).trans (((cell_far (p := ⟨gb120, _, none⟩) (bne_ hw118_3 GW120.out) _).trans (hHeld.2.2.2.2.2.2.2))))))))⟩ (fun hHeld => ?_)
  clear hK K
  refine done_ (done_of HT_.out (by kernel_rfl)) ?_
  have hnb38 := NB119_120.out
  have hnc38 := NB120_119.out
  obtain ⟨hcz39_0, hcz39_1, hcz39_2, hcz39_3, hfz39_0, hfz39_1, hfz39_2, hfz39_3⟩ := bz4 BK119.out
  obtain ⟨hcz40_0, hcz40_1, hcz40_2, hcz40_3, hfz40_0, hfz40_1, hfz40_2, hfz40_3⟩ := bz4 BK120.out
  try go_wp2
  go_ret
  exact ⟨by first | rfl | (simp [errW_none, errW_some] <;> rfl) | (simp [*, errW_none, errW_some] <;> rfl), by repeat (first | (with_reducible first | exact bw HB.out | refine bset ?_ | apply bA | apply bN | apply bD) | exact HB.out)⟩
 rw [if_neg c25] at H
 have c25b0 : (a1 == 2) = false := beq_eq_false_iff_ne.mpr c25
 have c25b1 : (a1 != 2) = true := bne_iff_ne.mpr c25
 by_cases c41 : a1 = 3
 rotate_left
 ·rw [if_neg c41] at H
  have c41b0 : (a1 == 3) = false := beq_eq_false_iff_ne.mpr c41
  have c41b1 : (a1 != 3) = true := bne_iff_ne.mpr c41
  obtain rfl := Option.some.inj H
  go_enter Try.func33, Try.ntmps33
  try go_wp2
  have n0_ := Aside0.mk (below_drew1 HB.out)
  replace HB := n0_
  clear n0_
  have p117 : 0 ≤ (a2 : Int) := of_decide_eq_true (by first | (with_reducible assumption) | assumption)
  have q117 : a2 < (l0.length : Int) := of_decide_eq_true (by first | (with_reducible assumption) | assumption)
  obtain ⟨ad117, e117, hx117_0, hx117_1, hx117_2, hx117_3⟩ := at_T42 HR0.out a2 p117 q117
  have hw117_3 := hx117_3
  have hw117_2 := hx117_2
  have hw117_1 := hx117_1
  have hw117_0 := hx117_0
  cases e117
  replace hx117_0 := (HB.out.cell (World.block_lt_of_cell? w _ hx117_0)).trans hx117_0
  replace hx117_1 := (HB.out.cell (World.block_lt_of_cell? w _ hx117_1)).trans hx117_1
  replace hx117_2 := (HB.out.cell (World.block_lt_of_cell? w _ hx117_2)).trans hx117_2
  replace hx117_3 := (HB.out.cell (World.block_lt_of_cell? w _ hx117_3)).trans hx117_3
  replace p117 := eq_true p117
  replace q117 := eq_true q117
  have p118 : 0 ≤ (a3 : Int) := of_decide_eq_true (by first | (with_reducible assumption) | assumption)
  have q118 : a3 < (l0.length : Int) := of_decide_eq_true (by first | (with_reducible assumption) | assumption)
  obtain ⟨ad118, e118, hx118_0, hx118_1, hx118_2, hx118_3⟩ := at_T42 HR0.out a3 p118 q118
  have hw118_3 := hx118_3
  have hw118_2 := hx118_2
  have hw118_1 := hx118_1
  have hw118_0 := hx118_0
  obtain rfl : ad117 = ad118 := (by injection e118)
  replace hx118_0 := (HB.out.cell (World.block_lt_of_cell? w _ hx118_0)).trans hx118_0
  replace hx118_1 := (HB.out.cell (World.block_lt_of_cell? w _ hx118_1)).trans hx118_1
  replace hx118_2 := (HB.out.cell (World.block_lt_of_cell? w _ hx118_2)).trans hx118_2
  replace hx118_3 := (HB.out.cell (World.block_lt_of_cell? w _ hx118_3)).trans hx118_3
  replace p118 := eq_true p118
  replace q118 := eq_true q118
  refine start_ (n := 12) (S := fun w' => w'.cell? (ad117.add ((a2).toNat * 4)) = some (.int .i64 ((rd_T42 l0 a2).f0)) ∧ w'.cell? ⟨(ad117.add ((a2).toNat * 4)).block, (ad117.add ((a2).toNat * 4)).off + 1, none⟩ = some (.int .i64 ((rd_T42 l0 a2).f1)) ∧ w'.cell? ⟨(ad117.add ((a2).toNat * 4)).block, (ad117.add ((a2).toNat * 4)).off + 2, none⟩ = some (.int .i64 ((rd_T42 l0 a2).f2)) ∧ w'.cell? ⟨(ad117.add ((a2).toNat * 4)).block, (ad117.add ((a2).toNat * 4)).off + 3, none⟩ = some (.int .i64 ((rd_T42 l0 a2).f3)) ∧ w'.cell? (ad117.add ((a3).toNat * 4)) = some (.int .i64 ((rd_T42 l0 a3).f0)) ∧ w'.cell? ⟨(ad117.add ((a3).toNat * 4)).block, (ad117.add ((a3).toNat * 4)).off + 1, none⟩ = some (.int .i64 ((rd_T42 l0 a3).f1)) ∧ w'.cell? ⟨(ad117.add ((a3).toNat * 4)).block, (ad117.add ((a3).toNat * 4)).off + 2, none⟩ = some (.int .i64 ((rd_T42 l0 a3).f2)) ∧ w'.cell? ⟨(ad117.add ((a3).toNat * 4)).block, (ad117.add ((a3).toNat * 4)).off + 3, none⟩ = some (.int .i64 ((rd_T42 l0 a3).f3))) (ds := []) q33_0 (by kernel_rfl) rfl rfl ⟨(bcl_ HB.out hw117_0 :), (bcl_ HB.out hw117_1 :), (bcl_ HB.out hw117_2 :), (bcl_ HB.out hw117_3 :), (bcl_ HB.out hw118_0 :), (bcl_ HB.out hw118_1 :), (bcl_ HB.out hw118_2 :), (bcl_ HB.out hw118_3 :)⟩ (fun hHeld => ?_); refine with_tabW spec_l3Gap.tab1 spec_l3Gap.bits1 (fun HT_ HW_ => ?_)
  generalize w.drew = w57 at HB hx117_0 hx117_1 hx117_2 hx117_3 hx118_0 hx118_1 hx118_2 hx118_3 hHeld ⊢
  refine pup_ (i := 0) (N := some 11) HT_ rfl rfl (by kernel_rfl) (fun _ _ _ h => h) (Or.inl ⟨by rfl, by intro w'; go_simp; with_reducible rfl⟩) (by simp only [aq_]; rfl) ?_
  refine pup_ (i := 1) (N := some 12) HT_ rfl rfl (by kernel_rfl) (fun _ _ _ h => h) (Or.inl ⟨by rfl, by intro w'; go_simp; with_reducible rfl⟩) (by simp only [aq_]; rfl) ?_
  refine pup_ (i := 2) (N := some 13) HT_ rfl rfl (by kernel_rfl) (fun _ _ _ h => h) (Or.inl ⟨by rfl, by intro w'; go_simp; with_reducible rfl⟩) (by simp only [aq_]; rfl) ?_
  refine pup_ (i := 4) (N := some 15) HT_ rfl rfl (by kernel_rfl) (fun _ _ _ h => h) (Or.inl ⟨by rfl, by intro w'; go_simp; with_reducible rfl⟩) (by simp only [aq_]; rfl) ?_
  refine pup_ (i := 5) (N := some 16) HT_ rfl rfl (by kernel_rfl) (fun _ _ _ h => h) (Or.inl ⟨by rfl, by intro w'; go_simp; with_reducible rfl⟩) (by simp only [aq_]; rfl) ?_
  refine pup_ (i := 6) (N := some 17) HT_ rfl rfl (by kernel_rfl) (fun _ _ _ h => h) (Or.inl ⟨by rfl, by intro w'; go_simp; with_reducible rfl⟩) (by simp only [aq_]; rfl) ?_
  refine take_ (i := 3) (N := some 14) (v := ?_) (a' := ?_) q33_7 rfl rfl (take_ofW HT_.out HW_.out (by kernel_rfl)) (fun _ _ _ h => h) (Or.inl ⟨by rfl, ?_⟩) hHeld ?_ ?_
  rotate_left
  ·rintro w' ⟨s0, s1, s2, s3, s4, s5, s6, s7⟩
   go_simp
   with_reducible rfl
  rotate_left
  ·simp only [aq_]
   rfl
  refine take_ (i := 7) (N := some 18) (v := ?_) (a' := ?_) q33_8 rfl rfl (take_ofW HT_.out HW_.out (by kernel_rfl)) (fun _ _ _ h => h) (Or.inl ⟨by rfl, ?_⟩) hHeld ?_ ?_
  rotate_left
  ·rintro w' ⟨s0, s1, s2, s3, s4, s5, s6, s7⟩
   go_simp
   with_reducible rfl
  rotate_left
  ·simp only [aq_]
   rfl
  refine join_ (σ := Nat × Nat) 2 q33_9 (fun s_ => [(9, .pointer (some ⟨s_.1, 0, none⟩)), (10, .pointer (some ⟨s_.2, 0, none⟩))]) (fun s_ w' => (w'.cell? (ad117.add ((a2).toNat * 4)) = some (.int .i64 ((rd_T42 l0 a2).f0)) ∧ w'.cell? ⟨(ad117.add ((a2).toNat * 4)).block, (ad117.add ((a2).toNat * 4)).off + 1, none⟩ = some (.int .i64 ((rd_T42 l0 a2).f1)) ∧ w'.cell? ⟨(ad117.add ((a2).toNat * 4)).block, (ad117.add ((a2).toNat * 4)).off + 2, none⟩ = some (.int .i64 ((rd_T42 l0 a2).f2)) ∧ w'.cell? ⟨(ad117.add ((a2).toNat * 4)).block, (ad117.add ((a2).toNat * 4)).off + 3, none⟩ = some (.int .i64 ((rd_T42 l0 a2).f3)) ∧ w'.cell? (ad117.add ((a3).toNat * 4)) = some (.int .i64 ((rd_T42 l0 a3).f0)) ∧ w'.cell? ⟨(ad117.add ((a3).toNat * 4)).block, (ad117.add ((a3).toNat * 4)).off + 1, none⟩ = some (.int .i64 ((rd_T42 l0 a3).f1)) ∧ w'.cell? ⟨(ad117.add ((a3).toNat * 4)).block, (ad117.add ((a3).toNat * 4)).off + 2, none⟩ = some (.int .i64 ((rd_T42 l0 a3).f2)) ∧ w'.cell? ⟨(ad117.add ((a3).toNat * 4)).block, (ad117.add ((a3).toNat * 4)).off + 3, none⟩ = some (.int .i64 ((rd_T42 l0 a3).f3))) ∧ (w'.heap[s_.1]? = some (.cells #[.int .i64 0, .int .i64 0, .int .i64 0, .int .i64 0] 42 (0, 0))) ∧ (w'.heap[s_.2]? = some (.cells #[.int .i64 0, .int .i64 0, .int .i64 0, .int .i64 0] 42 (0, 0))) ∧ (w.heap.size ≤ s_.1) ∧ (w.heap.size ≤ s_.1) ∧ (s_.2 ≠ s_.1) ∧ (s_.1 ≠ s_.2) ∧ (w.heap.size ≤ s_.2) ∧ (w.heap.size ≤ s_.2) ∧ (Below w.heap.size w w')) ?_ ?_
  rotate_left
  ·intro hCont
   refine two_ (i := 8) (j := 9) (Ni := some 9) (Nj := some 10) q33_10 q33_11 rfl rfl rfl rfl (two_of HT_.out (by kernel_rfl)) (by decide) (by decide) (fun K hK => ?_) (fun K hK => ?_)
   ·skip
    refine box_step ?hg (N := 9) ?hd (cs := #[.int .i64 0, .int .i64 0, .int .i64 0, .int .i64 0]) (t := 42) ?hr ?_; (case hd => rfl); (case hg => rfl); (case hr => first | (go_simp; done) | (go_simp; rfl))
    intro gb119 hg w58 hbox hb
    have n0_ := Aside0.mk (below_step (bw HB.out) hb)
    have n1_ := Aside0.mk (hbox)
    have n2_ := ge_ hg HB.out
    have n3_ := ge_ hg HB.out
    replace HB := n0_
    have BK119 := n1_
    have GW119 := n2_
    have GE119 := n3_
    clear n0_ n1_ n2_ n3_
    clear hb hbox hg
    refine hK.out _ _ ⟨(bcl_ HB.out hw117_0 :), (bcl_ HB.out hw117_1 :), (bcl_ HB.out hw117_2 :), (bcl_ HB.out hw117_3 :), (bcl_ HB.out hw118_0 :), (bcl_ HB.out hw118_1 :), (bcl_ HB.out hw118_2 :), (bcl_ HB.out hw118_3 :)⟩ (fun hHeld => ?_)
    clear hK K
    refine norm_ (a' := ?_) ?_ ?_
    rotate_left
    ·show Act.put _ (some 9) _ = _
     simp only [aq_]
     rfl
    refine one_ (i := 9) (N := some 10) q33_9 rfl rfl (one_of HT_.out (by kernel_rfl)) (by decide) (fun K hK => ?_)
    refine box_step ?hg (N := 10) ?hd (cs := #[.int .i64 0, .int .i64 0, .int .i64 0, .int .i64 0]) (t := 42) ?hr ?_; (case hd => rfl); (case hg => rfl); (case hr => first | (go_simp; done) | (go_simp; rfl))
    intro gb120 hg w59 hbox hb
    have n0_ := Aside0.mk (blk_below (bs BK119.out) hb)
    have n1_ := Aside0.mk (below_step (by repeat (first | (with_reducible first | exact bw HB.out | refine bset ?_ | apply bA | apply bN | apply bD) | exact HB.out)) hb)
    have n2_ := Aside0.mk (hbox)
    have n3_ := Aside0.mk ((by rw [hg]; exact (below_size (by repeat (first | (with_reducible first | exact bw HB.out | refine bset ?_ | apply bA | apply bN | apply bD) | exact HB.out))) : w.heap.size ≤ gb120))
    have n4_ := Aside0.mk ((by rw [hg]; exact (below_size (by repeat (first | (with_reducible first | exact bw HB.out | refine bset ?_ | apply bA | apply bN | apply bD) | exact HB.out))) : w.heap.size ≤ gb120))
    have n5_ := ne_ hg BK119.out
    have n6_ := en_ hg BK119.out
    replace BK119 := n0_
    replace HB := n1_
    have BK120 := n2_
    have GW120 := n3_
    have GE120 := n4_
    have NB119_120 := n5_
    have NB120_119 := n6_
    clear n0_ n1_ n2_ n3_ n4_ n5_ n6_
    clear hb hbox hg
    refine hK.out _ _ ⟨(bcl_ HB.out hw117_0 :), (bcl_ HB.out hw117_1 :), (bcl_ HB.out hw117_2 :), (bcl_ HB.out hw117_3 :), (bcl_ HB.out hw118_0 :), (bcl_ HB.out hw118_1 :), (bcl_ HB.out hw118_2 :), (bcl_ HB.out hw118_3 :)⟩ (fun hHeld => ?_)
    clear hK K
    refine norm_ (a' := ?_) ?_ ?_
    rotate_left
    ·show Act.put _ (some 10) _ = _
     simp only [aq_]
     rfl
    exact norm_ (by simp only [putAll, Act.put, List.setIfInBounds_toArray, List.set_cons_zero, List.set_cons_succ]) (hCont (gb119, gb120) _ ⟨hHeld, (bs BK119.out), (bs BK120.out), GW119.out, GE119.out, NB120_119.out, NB119_120.out, GW120.out, GE120.out, (by repeat (first | (with_reducible first | exact bw HB.out | refine bset ?_ | apply bA | apply bN | apply bD) | exact HB.out))⟩)
   ·skip
    refine box_step ?hg (N := 10) ?hd (cs := #[.int .i64 0, .int .i64 0, .int .i64 0, .int .i64 0]) (t := 42) ?hr ?_; (case hd => rfl); (case hg => rfl); (case hr => first | (go_simp; done) | (go_simp; rfl))
    intro gb120 hg w58 hbox hb
    have n0_ := Aside0.mk (below_step (bw HB.out) hb)
    have n1_ := Aside0.mk (hbox)
    have n2_ := ge_ hg HB.out
    have n3_ := ge_ hg HB.out
    replace HB := n0_
    have BK120 := n1_
    have GW120 := n2_
    have GE120 := n3_
    clear n0_ n1_ n2_ n3_
    clear hb hbox hg
    refine hK.out _ _ ⟨(bcl_ HB.out hw117_0 :), (bcl_ HB.out hw117_1 :), (bcl_ HB.out hw117_2 :), (bcl_ HB.out hw117_3 :), (bcl_ HB.out hw118_0 :), (bcl_ HB.out hw118_1 :), (bcl_ HB.out hw118_2 :), (bcl_ HB.out hw118_3 :)⟩ (fun hHeld => ?_)
    clear hK K
    refine norm_ (a' := ?_) ?_ ?_
    rotate_left
    ·show Act.put _ (some 10) _ = _
     simp only [aq_]
     rfl
    refine one_ (i := 8) (N := some 9) q33_9 rfl rfl (one_of HT_.out (by kernel_rfl)) (by decide) (fun K hK => ?_)
    refine box_step ?hg (N := 9) ?hd (cs := #[.int .i64 0, .int .i64 0, .int .i64 0, .int .i64 0]) (t := 42) ?hr ?_; (case hd => rfl); (case hg => rfl); (case hr => first | (go_simp; done) | (go_simp; rfl))
    intro gb119 hg w59 hbox hb
    have n0_ := Aside0.mk (blk_below (bs BK120.out) hb)
    have n1_ := Aside0.mk (below_step (by repeat (first | (with_reducible first | exact bw HB.out | refine bset ?_ | apply bA | apply bN | apply bD) | exact HB.out)) hb)
    have n2_ := Aside0.mk (hbox)
    have n3_ := Aside0.mk ((by rw [hg]; exact (below_size (by repeat (first | (with_reducible first | exact bw HB.out | refine bset ?_ | apply bA | apply bN | apply bD) | exact HB.out))) : w.heap.size ≤ gb119))
    have n4_ := Aside0.mk ((by rw [hg]; exact (below_size (by repeat (first | (with_reducible first | exact bw HB.out | refine bset ?_ | apply bA | apply bN | apply bD) | exact HB.out))) : w.heap.size ≤ gb119))
    have n5_ := ne_ hg BK120.out
    have n6_ := en_ hg BK120.out
    replace BK120 := n0_
    replace HB := n1_
    have BK119 := n2_
    have GW119 := n3_
    have GE119 := n4_
    have NB120_119 := n5_
    have NB119_120 := n6_
    clear n0_ n1_ n2_ n3_ n4_ n5_ n6_
    clear hb hbox hg
    refine hK.out _ _ ⟨(bcl_ HB.out hw117_0 :), (bcl_ HB.out hw117_1 :), (bcl_ HB.out hw117_2 :), (bcl_ HB.out hw117_3 :), (bcl_ HB.out hw118_0 :), (bcl_ HB.out hw118_1 :), (bcl_ HB.out hw118_2 :), (bcl_ HB.out hw118_3 :)⟩ (fun hHeld => ?_)
    clear hK K
    refine norm_ (a' := ?_) ?_ ?_
    rotate_left
    ·show Act.put _ (some 9) _ = _
     simp only [aq_]
     rfl
    exact norm_ (by simp only [putAll, Act.put, List.setIfInBounds_toArray, List.set_cons_zero, List.set_cons_succ]) (hCont (gb119, gb120) _ ⟨hHeld, (bs BK119.out), (bs BK120.out), GW119.out, GE119.out, NB120_119.out, NB119_120.out, GW120.out, GE120.out, (by repeat (first | (with_reducible first | exact bw HB.out | refine bset ?_ | apply bA | apply bN | apply bD) | exact HB.out))⟩)
  rintro ⟨gb119, gb120⟩ w60 ⟨hS_, h0_, h1_, h2_, h3_, h4_, h5_, h6_, h7_, h8_⟩
  have n0_ : Aside0 (w60.heap[gb119]? = some (.cells #[.int .i64 0, .int .i64 0, .int .i64 0, .int .i64 0] 42 (0, 0))) := ⟨h0_⟩
  have n1_ : Aside0 (w60.heap[gb120]? = some (.cells #[.int .i64 0, .int .i64 0, .int .i64 0, .int .i64 0] 42 (0, 0))) := ⟨h1_⟩
  have n2_ : Aside0 (w.heap.size ≤ gb119) := ⟨h2_⟩
  have n3_ : Aside0 (w.heap.size ≤ gb119) := ⟨h3_⟩
  have n4_ : Aside0 (gb120 ≠ gb119) := ⟨h4_⟩
  have n5_ : Aside0 (gb119 ≠ gb120) := ⟨h5_⟩
  have n6_ : Aside0 (w.heap.size ≤ gb120) := ⟨h6_⟩
  have n7_ : Aside0 (w.heap.size ≤ gb120) := ⟨h7_⟩
  have n8_ : Aside0 (Below w.heap.size w w60) := ⟨h8_⟩
  clear HB
  clear h0_ h1_ h2_ h3_ h4_ h5_ h6_ h7_ h8_
  have BK119 := n0_
  have BK120 := n1_
  have GW119 := n2_
  have GE119 := n3_
  have NB120_119 := n4_
  have NB119_120 := n5_
  have GW120 := n6_
  have GE120 := n7_
  have HB := n8_
  clear n0_ n1_ n2_ n3_ n4_ n5_ n6_ n7_ n8_
  have hHeld : w60.cell? (ad117.add ((a2).toNat * 4)) = some (.int .i64 ((rd_T42 l0 a2).f0)) ∧ w60.cell? ⟨(ad117.add ((a2).toNat * 4)).block, (ad117.add ((a2).toNat * 4)).off + 1, none⟩ = some (.int .i64 ((rd_T42 l0 a2).f1)) ∧ w60.cell? ⟨(ad117.add ((a2).toNat * 4)).block, (ad117.add ((a2).toNat * 4)).off + 2, none⟩ = some (.int .i64 ((rd_T42 l0 a2).f2)) ∧ w60.cell? ⟨(ad117.add ((a2).toNat * 4)).block, (ad117.add ((a2).toNat * 4)).off + 3, none⟩ = some (.int .i64 ((rd_T42 l0 a2).f3)) ∧ w60.cell? (ad117.add ((a3).toNat * 4)) = some (.int .i64 ((rd_T42 l0 a3).f0)) ∧ w60.cell? ⟨(ad117.add ((a3).toNat * 4)).block, (ad117.add ((a3).toNat * 4)).off + 1, none⟩ = some (.int .i64 ((rd_T42 l0 a3).f1)) ∧ w60.cell? ⟨(ad117.add ((a3).toNat * 4)).block, (ad117.add ((a3).toNat * 4)).off + 2, none⟩ = some (.int .i64 ((rd_T42 l0 a3).f2)) ∧ w60.cell? ⟨(ad117.add ((a3).toNat * 4)).block, (ad117.add ((a3).toNat * 4)).off + 3, none⟩ = some (.int .i64 ((rd_T42 l0 a3).f3)) := hS_
  refine norm_ (a' := ?_) ?_ ?_
  rotate_left
  ·simp only [putAll, Act.put, List.setIfInBounds_toArray, List.set_cons_zero, List.set_cons_succ]
   rfl
  refine one_ (i := 10) (N := none) q33_12 rfl rfl (one_of HT_.out (by kernel_rfl)) (by decide) (fun K hK => ?_)
  have hs61 : w60.cell? ⟨gb119, 0, none⟩ = some (.int .i64 0) := (blk_cell BK119.out 0).trans rfl
  have hfs61 := blk_frozen BK119.out 0
  have hns61_1 := NB120_119.out
  have hms61_1 := NB119_120.out
  have hs62 : w60.cell? ⟨gb119, 1, none⟩ = some (.int .i64 0) := (blk_cell BK119.out 1).trans rfl
  have hfs62 := blk_frozen BK119.out 1
  have hns62_1 := NB120_119.out
  have hms62_1 := NB119_120.out
  have hs63 : w60.cell? ⟨gb119, 2, none⟩ = some (.int .i64 0) := (blk_cell BK119.out 2).trans rfl
  have hfs63 := blk_frozen BK119.out 2
  have hns63_1 := NB120_119.out
  have hms63_1 := NB119_120.out
  have hs64 : w60.cell? ⟨gb119, 3, none⟩ = some (.int .i64 0) := (blk_cell BK119.out 3).trans rfl
  have hfs64 := blk_frozen BK119.out 3
  have hns64_1 := NB120_119.out
  have hms64_1 := NB119_120.out
  refine skip_ (w1 := ?_) (by rfl) rfl ?_ ?_
  rotate_left
  ·go_simp
   rfl
  refine hK.out _ _ ⟨((cell_far (p := ⟨gb119, _, none⟩) (bne_ hw117_0 GW119.out) _).trans (((cell_far (p := ⟨gb119, _, none⟩) (bne_ hw117_0 GW119.out) _).trans (((cell_far (p := ⟨gb119, _, none⟩) (bne_ hw117_0 GW119.out) _).trans (((cell_far (p := ⟨gb119, _, none⟩) (bne_ hw117_0 GW119.out) _).trans (hHeld.1)))))))), ((cell_far (p := ⟨gb119, _, none⟩) (bne_ hw117_1 GW119.out) _).trans (((cell_far (p := ⟨gb119, _, none⟩) (bne_ hw117_1 GW119.out) _).trans (((cell_far (p := ⟨gb119, _, none⟩) (bne_ hw117_1 GW119.out) _).trans (((cell_far (p := ⟨gb119, _, none⟩) (bne_ hw117_1 GW119.out) _).trans (hHeld.2.1)))))))), ((cell_far (p := ⟨gb119, _, none⟩) (bne_ hw117_2 GW119.out) _).trans (((cell_far (p := ⟨gb119, _, none⟩) (bne_ hw117_2 GW119.out) _).trans (((cell_far (p := ⟨gb119, _, none⟩) (bne_ hw117_2 GW119.out) _).trans (((cell_far (p := ⟨gb119, _, none⟩) (bne_ hw117_2 GW119.out) _).trans (hHeld.2.2.1)))))))), ((cell_far (p := ⟨gb119, _, none⟩) (bne_ hw117_3 GW119.out) _).trans (((cell_far (p := ⟨gb119, _, none⟩) (bne_ hw117_3 GW119.out) _).trans (((cell_far (p := ⟨gb119, _, none⟩) (bne_ hw117_3 GW119.out) _).trans (((cell_far (p := ⟨gb119, _, none⟩) (bne_ hw117_3 GW119.out) _).trans (hHeld.2.2.2.1)))))))), ((cell_far (p := ⟨gb119, _, none⟩) (bne_ hw118_0 GW119.out) _).trans (((cell_far (p := ⟨gb119, _, none⟩) (bne_ hw118_0 GW119.out) _).trans (((cell_far (p := ⟨gb119, _, none⟩) (bne_ hw118_0 GW119.out) _).trans (((cell_far (p := ⟨gb119, _, none⟩) (bne_ hw118_0 GW119.out) _).trans (hHeld.2.2.2.2.1)))))))), ((cell_far (p := ⟨gb119, _, none⟩) (bne_ hw118_1 GW119.out) _).trans (((cell_far (p := ⟨gb119, _, none⟩) (bne_ hw118_1 GW119.out) _).trans (((cell_far (p := ⟨gb119, _, none⟩) (bne_ hw118_1 GW119.out) _).trans (((cell_far (p := ⟨gb119, _, none⟩) (bne_ hw118_1 GW119.out) _).trans (hHeld.2.2.2.2.2.1)))))))), ((cell_far (p := ⟨gb119, _, none⟩) (bne_ hw118_2 GW119.out) _).trans (((cell_far (p := ⟨gb119, _, none⟩) (bne_ hw118_2 GW119.out) _).trans (((cell_far (p := ⟨gb119, _, none⟩) (bne_ hw118_2 GW119.out) _).trans (((cell_far (p := ⟨gb119, _, none⟩) (bne_ hw118_2 GW119.out) _).trans (hHeld.2.2.2.2.2.2.1)))))))), ((cell_far (p := ⟨gb119, _, none⟩) (bne_ hw118_3 GW119.out) _).trans (((cell_far (p := ⟨gb119, _, none⟩) (bne_ hw118_3 GW119.out) _).trans (((cell_far (p := ⟨gb119, _, none⟩) (bne_ hw118_3 GW119.out) _).trans (((cell_far (p := ⟨gb119, _, none⟩) (bne_ hw118_3 GW119.out) _).trans (hHeld.2.2.2.2.2.2.2))))))))⟩ (fun hHeld => ?_)
  clear hK K
  refine one_ (i := 11) (N := none) q33_13 rfl rfl (one_of HT_.out (by kernel_rfl)) (by decide) (fun K hK => ?_)
  have hs65 : w60.cell? ⟨gb120, 0, none⟩ = some (.int .i64 0) := (blk_cell BK120.out 0).trans rfl
  have hfs65 := blk_frozen BK120.out 0
  have hns65_0 := NB119_120.out
  have hms65_0 := NB120_119.out
  have hs66 : w60.cell? ⟨gb120, 1, none⟩ = some (.int .i64 0) := (blk_cell BK120.out 1).trans rfl
  have hfs66 := blk_frozen BK120.out 1
  have hns66_0 := NB119_120.out
  have hms66_0 := NB120_119.out
  have hs67 : w60.cell? ⟨gb120, 2, none⟩ = some (.int .i64 0) := (blk_cell BK120.out 2).trans rfl
  have hfs67 := blk_frozen BK120.out 2
  have hns67_0 := NB119_120.out
  have hms67_0 := NB120_119.out
  have hs68 : w60.cell? ⟨gb120, 3, none⟩ = some (.int .i64 0) := (blk_cell BK120.out 3).trans rfl
  have hfs68 := blk_frozen BK120.out 3
  have hns68_0 := NB119_120.out
  have hms68_0 := NB120_119.out
  refine skip_ (w1 := ?_) (by rfl) rfl ?_ ?_
  rotate_left
  ·go_simp
   rfl
  refine hK.out _ _ ⟨((cell_far (p := ⟨gb120, _, none⟩) (bne_ hw117_0 GW120.out) _).trans (((cell_far (p := ⟨gb120, _, none⟩) (bne_ hw117_0 GW120.out) _).trans (((cell_far (p := ⟨gb120, _, none⟩) (bne_ hw117_0 GW120.out) _).trans (((cell_far (p := ⟨gb120, _, none⟩) (bne_ hw117_0 GW120.out) _).trans (hHeld.1)))))))), ((cell_far (p := ⟨gb120, _, none⟩) (bne_ hw117_1 GW120.out) _).trans (((cell_far (p := ⟨gb120, _, none⟩) (bne_ hw117_1 GW120.out) _).trans (((cell_far (p := ⟨gb120, _, none⟩) (bne_ hw117_1 GW120.out) _).trans (((cell_far (p := ⟨gb120, _, none⟩) (bne_ hw117_1 GW120.out) _).trans (hHeld.2.1)))))))), ((cell_far (p := ⟨gb120, _, none⟩) (bne_ hw117_2 GW120.out) _).trans (((cell_far (p := ⟨gb120, _, none⟩) (bne_ hw117_2 GW120.out) _).trans (((cell_far (p := ⟨gb120, _, none⟩) (bne_ hw117_2 GW120.out) _).trans (((cell_far (p := ⟨gb120, _, none⟩) (bne_ hw117_2 GW120.out) _).trans (hHeld.2.2.1)))))))), ((cell_far (p := ⟨gb120, _, none⟩) (bne_ hw117_3 GW120.out) _).trans (((cell_far (p := ⟨gb120, _, none⟩) (bne_ hw117_3 GW120.out) _).trans (((cell_far (p := ⟨gb120, _, none⟩) (bne_ hw117_3 GW120.out) _).trans (((cell_far (p := ⟨gb120, _, none⟩) (bne_ hw117_3 GW120.out) _).trans (hHeld.2.2.2.1)))))))), ((cell_far (p := ⟨gb120, _, none⟩) (bne_ hw118_0 GW120.out) _).trans (((cell_far (p := ⟨gb120, _, none⟩) (bne_ hw118_0 GW120.out) _).trans (((cell_far (p := ⟨gb120, _, none⟩) (bne_ hw118_0 GW120.out) _).trans (((cell_far (p := ⟨gb120, _, none⟩) (bne_ hw118_0 GW120.out) _).trans (hHeld.2.2.2.2.1)))))))), ((cell_far (p := ⟨gb120, _, none⟩) (bne_ hw118_1 GW120.out) _).trans (((cell_far (p := ⟨gb120, _, none⟩) (bne_ hw118_1 GW120.out) _).trans (((cell_far (p := ⟨gb120, _, none⟩) (bne_ hw118_1 GW120.out) _).trans (((cell_far (p := ⟨gb120, _, none⟩) (bne_ hw118_1 GW120.out) _).trans (hHeld.2.2.2.2.2.1)))))))), ((cell_far (p := ⟨gb120, _, none⟩) (bne_ hw118_2 GW120.out) _).trans (((cell_far (p := ⟨gb120, _, none⟩) (bne_ hw118_2 GW120.out) _).trans (((cell_far (p := ⟨gb120, _, none⟩) (bne_ hw118_2 GW120.out) _).trans (((cell_far (p := ⟨gb120, _, none⟩) (bne_ hw118_2 GW120.out) _).trans (hHeld.2.2.2.2.2.2.1)))))))), ((cell_far (p := ⟨gb120, _, none⟩) (bne_ hw118_3 GW120.out) _).trans (((cell_far (p := ⟨gb120, _, none⟩) (bne_ hw118_3 GW120.out) _).trans (((cell_far (p := ⟨gb120, _, none⟩) (bne_ hw118_3 GW120.out) _).trans (((cell_far (p := ⟨gb120, _, none⟩) (bne_ hw118_3 GW120.out) _).trans (hHeld.2.2.2.2.2.2.2))))))))⟩ (fun hHeld => ?_)
  clear hK K
  refine done_ (done_of HT_.out (by kernel_rfl)) ?_
  have hnb69 := NB119_120.out
  have hnc69 := NB120_119.out
  obtain ⟨hcz70_0, hcz70_1, hcz70_2, hcz70_3, hfz70_0, hfz70_1, hfz70_2, hfz70_3⟩ := bz4 BK119.out
  obtain ⟨hcz71_0, hcz71_1, hcz71_2, hcz71_3, hfz71_0, hfz71_1, hfz71_2, hfz71_3⟩ := bz4 BK120.out
  try go_wp2
  go_ret
  exact ⟨by first | rfl | (simp [errW_none, errW_some] <;> rfl) | (simp [*, errW_none, errW_some] <;> rfl), by repeat (first | (with_reducible first | exact bw HB.out | refine bset ?_ | apply bA | apply bN | apply bD) | exact HB.out)⟩
 rw [if_pos c41] at H
 have c41b0 : (a1 == 3) = true := beq_iff_eq.mpr c41
 have c41b1 : (a1 != 3) = false := bne_eq_false_iff_eq.mpr c41
 clear c41
 obtain rfl := Option.some.inj H
 go_enter Try.func33, Try.ntmps33
 try go_wp2
 have n0_ := Aside0.mk (below_drew1 HB.out)
 replace HB := n0_
 clear n0_
 have p117 : 0 ≤ (a2 : Int) := of_decide_eq_true (by first | (with_reducible assumption) | assumption)
 have q117 : a2 < (l0.length : Int) := of_decide_eq_true (by first | (with_reducible assumption) | assumption)
 obtain ⟨ad117, e117, hx117_0, hx117_1, hx117_2, hx117_3⟩ := at_T42 HR0.out a2 p117 q117
 have hw117_3 := hx117_3
 have hw117_2 := hx117_2
 have hw117_1 := hx117_1
 have hw117_0 := hx117_0
 cases e117
 replace hx117_0 := (HB.out.cell (World.block_lt_of_cell? w _ hx117_0)).trans hx117_0
 replace hx117_1 := (HB.out.cell (World.block_lt_of_cell? w _ hx117_1)).trans hx117_1
 replace hx117_2 := (HB.out.cell (World.block_lt_of_cell? w _ hx117_2)).trans hx117_2
 replace hx117_3 := (HB.out.cell (World.block_lt_of_cell? w _ hx117_3)).trans hx117_3
 replace p117 := eq_true p117
 replace q117 := eq_true q117
 have p118 : 0 ≤ (a3 : Int) := of_decide_eq_true (by first | (with_reducible assumption) | assumption)
 have q118 : a3 < (l0.length : Int) := of_decide_eq_true (by first | (with_reducible assumption) | assumption)
 obtain ⟨ad118, e118, hx118_0, hx118_1, hx118_2, hx118_3⟩ := at_T42 HR0.out a3 p118 q118
 have hw118_3 := hx118_3
 have hw118_2 := hx118_2
 have hw118_1 := hx118_1
 have hw118_0 := hx118_0
 obtain rfl : ad117 = ad118 := (by injection e118)
 replace hx118_0 := (HB.out.cell (World.block_lt_of_cell? w _ hx118_0)).trans hx118_0
 replace hx118_1 := (HB.out.cell (World.block_lt_of_cell? w _ hx118_1)).trans hx118_1
 replace hx118_2 := (HB.out.cell (World.block_lt_of_cell? w _ hx118_2)).trans hx118_2
 replace hx118_3 := (HB.out.cell (World.block_lt_of_cell? w _ hx118_3)).trans hx118_3
 replace p118 := eq_true p118
 replace q118 := eq_true q118
 refine start_ (n := 12) (S := fun w' => w'.cell? (ad117.add ((a2).toNat * 4)) = some (.int .i64 ((rd_T42 l0 a2).f0)) ∧ w'.cell? ⟨(ad117.add ((a2).toNat * 4)).block, (ad117.add ((a2).toNat * 4)).off + 1, none⟩ = some (.int .i64 ((rd_T42 l0 a2).f1)) ∧ w'.cell? ⟨(ad117.add ((a2).toNat * 4)).block, (ad117.add ((a2).toNat * 4)).off + 2, none⟩ = some (.int .i64 ((rd_T42 l0 a2).f2)) ∧ w'.cell? ⟨(ad117.add ((a2).toNat * 4)).block, (ad117.add ((a2).toNat * 4)).off + 3, none⟩ = some (.int .i64 ((rd_T42 l0 a2).f3)) ∧ w'.cell? (ad117.add ((a3).toNat * 4)) = some (.int .i64 ((rd_T42 l0 a3).f0)) ∧ w'.cell? ⟨(ad117.add ((a3).toNat * 4)).block, (ad117.add ((a3).toNat * 4)).off + 1, none⟩ = some (.int .i64 ((rd_T42 l0 a3).f1)) ∧ w'.cell? ⟨(ad117.add ((a3).toNat * 4)).block, (ad117.add ((a3).toNat * 4)).off + 2, none⟩ = some (.int .i64 ((rd_T42 l0 a3).f2)) ∧ w'.cell? ⟨(ad117.add ((a3).toNat * 4)).block, (ad117.add ((a3).toNat * 4)).off + 3, none⟩ = some (.int .i64 ((rd_T42 l0 a3).f3))) (ds := []) q33_0 (by kernel_rfl) rfl rfl ⟨(bcl_ HB.out hw117_0 :), (bcl_ HB.out hw117_1 :), (bcl_ HB.out hw117_2 :), (bcl_ HB.out hw117_3 :), (bcl_ HB.out hw118_0 :), (bcl_ HB.out hw118_1 :), (bcl_ HB.out hw118_2 :), (bcl_ HB.out hw118_3 :)⟩ (fun hHeld => ?_); refine with_tabW spec_l3Gap.tab1 spec_l3Gap.bits1 (fun HT_ HW_ => ?_)
 generalize w.drew = w42 at HB hx117_0 hx117_1 hx117_2 hx117_3 hx118_0 hx118_1 hx118_2 hx118_3 hHeld ⊢
 refine pup_ (i := 0) (N := some 11) HT_ rfl rfl (by kernel_rfl) (fun _ _ _ h => h) (Or.inl ⟨by rfl, by intro w'; go_simp; with_reducible rfl⟩) (by simp only [aq_]; rfl) ?_
 refine pup_ (i := 1) (N := some 12) HT_ rfl rfl (by kernel_rfl) (fun _ _ _ h => h) (Or.inl ⟨by rfl, by intro w'; go_simp; with_reducible rfl⟩) (by simp only [aq_]; rfl) ?_
 refine pup_ (i := 2) (N := some 13) HT_ rfl rfl (by kernel_rfl) (fun _ _ _ h => h) (Or.inl ⟨by rfl, by intro w'; go_simp; with_reducible rfl⟩) (by simp only [aq_]; rfl) ?_
 refine pup_ (i := 4) (N := some 15) HT_ rfl rfl (by kernel_rfl) (fun _ _ _ h => h) (Or.inl ⟨by rfl, by intro w'; go_simp; with_reducible rfl⟩) (by simp only [aq_]; rfl) ?_
 refine pup_ (i := 5) (N := some 16) HT_ rfl rfl (by kernel_rfl) (fun _ _ _ h => h) (Or.inl ⟨by rfl, by intro w'; go_simp; with_reducible rfl⟩) (by simp only [aq_]; rfl) ?_
 refine pup_ (i := 6) (N := some 17) HT_ rfl rfl (by kernel_rfl) (fun _ _ _ h => h) (Or.inl ⟨by rfl, by intro w'; go_simp; with_reducible rfl⟩) (by simp only [aq_]; rfl) ?_
 refine take_ (i := 3) (N := some 14) (v := ?_) (a' := ?_) q33_7 rfl rfl (take_ofW HT_.out HW_.out (by kernel_rfl)) (fun _ _ _ h => h) (Or.inl ⟨by rfl, ?_⟩) hHeld ?_ ?_
 rotate_left
 ·rintro w' ⟨s0, s1, s2, s3, s4, s5, s6, s7⟩
  go_simp
  with_reducible rfl
 rotate_left
 ·simp only [aq_]
  rfl
 refine take_ (i := 7) (N := some 18) (v := ?_) (a' := ?_) q33_8 rfl rfl (take_ofW HT_.out HW_.out (by kernel_rfl)) (fun _ _ _ h => h) (Or.inl ⟨by rfl, ?_⟩) hHeld ?_ ?_
 rotate_left
 ·rintro w' ⟨s0, s1, s2, s3, s4, s5, s6, s7⟩
  go_simp
  with_reducible rfl
 rotate_left
 ·simp only [aq_]
  rfl
 refine join_ (σ := Nat × Nat) 2 q33_9 (fun s_ => [(9, .pointer (some ⟨s_.1, 0, none⟩)), (10, .pointer (some ⟨s_.2, 0, none⟩))]) (fun s_ w' => (w'.cell? (ad117.add ((a2).toNat * 4)) = some (.int .i64 ((rd_T42 l0 a2).f0)) ∧ w'.cell? ⟨(ad117.add ((a2).toNat * 4)).block, (ad117.add ((a2).toNat * 4)).off + 1, none⟩ = some (.int .i64 ((rd_T42 l0 a2).f1)) ∧ w'.cell? ⟨(ad117.add ((a2).toNat * 4)).block, (ad117.add ((a2).toNat * 4)).off + 2, none⟩ = some (.int .i64 ((rd_T42 l0 a2).f2)) ∧ w'.cell? ⟨(ad117.add ((a2).toNat * 4)).block, (ad117.add ((a2).toNat * 4)).off + 3, none⟩ = some (.int .i64 ((rd_T42 l0 a2).f3)) ∧ w'.cell? (ad117.add ((a3).toNat * 4)) = some (.int .i64 ((rd_T42 l0 a3).f0)) ∧ w'.cell? ⟨(ad117.add ((a3).toNat * 4)).block, (ad117.add ((a3).toNat * 4)).off + 1, none⟩ = some (.int .i64 ((rd_T42 l0 a3).f1)) ∧ w'.cell? ⟨(ad117.add ((a3).toNat * 4)).block, (ad117.add ((a3).toNat * 4)).off + 2, none⟩ = some (.int .i64 ((rd_T42 l0 a3).f2)) ∧ w'.cell? ⟨(ad117.add ((a3).toNat * 4)).block, (ad117.add ((a3).toNat * 4)).off + 3, none⟩ = some (.int .i64 ((rd_T42 l0 a3).f3))) ∧ (w'.heap[s_.1]? = some (.cells #[.int .i64 0, .int .i64 0, .int .i64 0, .int .i64 0] 42 (0, 0))) ∧ (w'.heap[s_.2]? = some (.cells #[.int .i64 0, .int .i64 0, .int .i64 0, .int .i64 0] 42 (0, 0))) ∧ (w.heap.size ≤ s_.1) ∧ (w.heap.size ≤ s_.1) ∧ (s_.2 ≠ s_.1) ∧ (s_.1 ≠ s_.2) ∧ (w.heap.size ≤ s_.2) ∧ (w.heap.size ≤ s_.2) ∧ (Below w.heap.size w w')) ?_ ?_
 rotate_left
 ·intro hCont
  refine two_ (i := 8) (j := 9) (Ni := some 9) (Nj := some 10) q33_10 q33_11 rfl rfl rfl rfl (two_of HT_.out (by kernel_rfl)) (by decide) (by decide) (fun K hK => ?_) (fun K hK => ?_)
  ·skip
   refine box_step ?hg (N := 9) ?hd (cs := #[.int .i64 0, .int .i64 0, .int .i64 0, .int .i64 0]) (t := 42) ?hr ?_; (case hd => rfl); (case hg => rfl); (case hr => first | (go_simp; done) | (go_simp; rfl))
   intro gb119 hg w43 hbox hb
   have n0_ := Aside0.mk (below_step (bw HB.out) hb)
   have n1_ := Aside0.mk (hbox)
   have n2_ := ge_ hg HB.out
   have n3_ := ge_ hg HB.out
   replace HB := n0_
   have BK119 := n1_
   have GW119 := n2_
   have GE119 := n3_
   clear n0_ n1_ n2_ n3_
   clear hb hbox hg
   refine hK.out _ _ ⟨(bcl_ HB.out hw117_0 :), (bcl_ HB.out hw117_1 :), (bcl_ HB.out hw117_2 :), (bcl_ HB.out hw117_3 :), (bcl_ HB.out hw118_0 :), (bcl_ HB.out hw118_1 :), (bcl_ HB.out hw118_2 :), (bcl_ HB.out hw118_3 :)⟩ (fun hHeld => ?_)
   clear hK K
   refine norm_ (a' := ?_) ?_ ?_
   rotate_left
   ·show Act.put _ (some 9) _ = _
    simp only [aq_]
    rfl
   refine one_ (i := 9) (N := some 10) q33_9 rfl rfl (one_of HT_.out (by kernel_rfl)) (by decide) (fun K hK => ?_)
   refine box_step ?hg (N := 10) ?hd (cs := #[.int .i64 0, .int .i64 0, .int .i64 0, .int .i64 0]) (t := 42) ?hr ?_; (case hd => rfl); (case hg => rfl); (case hr => first | (go_simp; done) | (go_simp; rfl))
   intro gb120 hg w44 hbox hb
   have n0_ := Aside0.mk (blk_below (bs BK119.out) hb)
   have n1_ := Aside0.mk (below_step (by repeat (first | (with_reducible first | exact bw HB.out | refine bset ?_ | apply bA | apply bN | apply bD) | exact HB.out)) hb)
   have n2_ := Aside0.mk (hbox)
   have n3_ := Aside0.mk ((by rw [hg]; exact (below_size (by repeat (first | (with_reducible first | exact bw HB.out | refine bset ?_ | apply bA | apply bN | apply bD) | exact HB.out))) : w.heap.size ≤ gb120))
   have n4_ := Aside0.mk ((by rw [hg]; exact (below_size (by repeat (first | (with_reducible first | exact bw HB.out | refine bset ?_ | apply bA | apply bN | apply bD) | exact HB.out))) : w.heap.size ≤ gb120))
   have n5_ := ne_ hg BK119.out
   have n6_ := en_ hg BK119.out
   replace BK119 := n0_
   replace HB := n1_
   have BK120 := n2_
   have GW120 := n3_
   have GE120 := n4_
   have NB119_120 := n5_
   have NB120_119 := n6_
   clear n0_ n1_ n2_ n3_ n4_ n5_ n6_
   clear hb hbox hg
   refine hK.out _ _ ⟨(bcl_ HB.out hw117_0 :), (bcl_ HB.out hw117_1 :), (bcl_ HB.out hw117_2 :), (bcl_ HB.out hw117_3 :), (bcl_ HB.out hw118_0 :), (bcl_ HB.out hw118_1 :), (bcl_ HB.out hw118_2 :), (bcl_ HB.out hw118_3 :)⟩ (fun hHeld => ?_)
   clear hK K
   refine norm_ (a' := ?_) ?_ ?_
   rotate_left
   ·show Act.put _ (some 10) _ = _
    simp only [aq_]
    rfl
   exact norm_ (by simp only [putAll, Act.put, List.setIfInBounds_toArray, List.set_cons_zero, List.set_cons_succ]) (hCont (gb119, gb120) _ ⟨hHeld, (bs BK119.out), (bs BK120.out), GW119.out, GE119.out, NB120_119.out, NB119_120.out, GW120.out, GE120.out, (by repeat (first | (with_reducible first | exact bw HB.out | refine bset ?_ | apply bA | apply bN | apply bD) | exact HB.out))⟩)
  ·skip
   refine box_step ?hg (N := 10) ?hd (cs := #[.int .i64 0, .int .i64 0, .int .i64 0, .int .i64 0]) (t := 42) ?hr ?_; (case hd => rfl); (case hg => rfl); (case hr => first | (go_simp; done) | (go_simp; rfl))
   intro gb120 hg w43 hbox hb
   have n0_ := Aside0.mk (below_step (bw HB.out) hb)
   have n1_ := Aside0.mk (hbox)
   have n2_ := ge_ hg HB.out
   have n3_ := ge_ hg HB.out
   replace HB := n0_
   have BK120 := n1_
   have GW120 := n2_
   have GE120 := n3_
   clear n0_ n1_ n2_ n3_
   clear hb hbox hg
   refine hK.out _ _ ⟨(bcl_ HB.out hw117_0 :), (bcl_ HB.out hw117_1 :), (bcl_ HB.out hw117_2 :), (bcl_ HB.out hw117_3 :), (bcl_ HB.out hw118_0 :), (bcl_ HB.out hw118_1 :), (bcl_ HB.out hw118_2 :), (bcl_ HB.out hw118_3 :)⟩ (fun hHeld => ?_)
   clear hK K
   refine norm_ (a' := ?_) ?_ ?_
   rotate_left
   ·show Act.put _ (some 10) _ = _
    simp only [aq_]
    rfl
   refine one_ (i := 8) (N := some 9) q33_9 rfl rfl (one_of HT_.out (by kernel_rfl)) (by decide) (fun K hK => ?_)
   refine box_step ?hg (N := 9) ?hd (cs := #[.int .i64 0, .int .i64 0, .int .i64 0, .int .i64 0]) (t := 42) ?hr ?_; (case hd => rfl); (case hg => rfl); (case hr => first | (go_simp; done) | (go_simp; rfl))
   intro gb119 hg w44 hbox hb
   have n0_ := Aside0.mk (blk_below (bs BK120.out) hb)
   have n1_ := Aside0.mk (below_step (by repeat (first | (with_reducible first | exact bw HB.out | refine bset ?_ | apply bA | apply bN | apply bD) | exact HB.out)) hb)
   have n2_ := Aside0.mk (hbox)
   have n3_ := Aside0.mk ((by rw [hg]; exact (below_size (by repeat (first | (with_reducible first | exact bw HB.out | refine bset ?_ | apply bA | apply bN | apply bD) | exact HB.out))) : w.heap.size ≤ gb119))
   have n4_ := Aside0.mk ((by rw [hg]; exact (below_size (by repeat (first | (with_reducible first | exact bw HB.out | refine bset ?_ | apply bA | apply bN | apply bD) | exact HB.out))) : w.heap.size ≤ gb119))
   have n5_ := ne_ hg BK120.out
   have n6_ := en_ hg BK120.out
   replace BK120 := n0_
   replace HB := n1_
   have BK119 := n2_
   have GW119 := n3_
   have GE119 := n4_
   have NB120_119 := n5_
   have NB119_120 := n6_
   clear n0_ n1_ n2_ n3_ n4_ n5_ n6_
   clear hb hbox hg
   refine hK.out _ _ ⟨(bcl_ HB.out hw117_0 :), (bcl_ HB.out hw117_1 :), (bcl_ HB.out hw117_2 :), (bcl_ HB.out hw117_3 :), (bcl_ HB.out hw118_0 :), (bcl_ HB.out hw118_1 :), (bcl_ HB.out hw118_2 :), (bcl_ HB.out hw118_3 :)⟩ (fun hHeld => ?_)
   clear hK K
   refine norm_ (a' := ?_) ?_ ?_
   rotate_left
   ·show Act.put _ (some 9) _ = _
    simp only [aq_]
    rfl
   exact norm_ (by simp only [putAll, Act.put, List.setIfInBounds_toArray, List.set_cons_zero, List.set_cons_succ]) (hCont (gb119, gb120) _ ⟨hHeld, (bs BK119.out), (bs BK120.out), GW119.out, GE119.out, NB120_119.out, NB119_120.out, GW120.out, GE120.out, (by repeat (first | (with_reducible first | exact bw HB.out | refine bset ?_ | apply bA | apply bN | apply bD) | exact HB.out))⟩)
 rintro ⟨gb119, gb120⟩ w45 ⟨hS_, h0_, h1_, h2_, h3_, h4_, h5_, h6_, h7_, h8_⟩
 have n0_ : Aside0 (w45.heap[gb119]? = some (.cells #[.int .i64 0, .int .i64 0, .int .i64 0, .int .i64 0] 42 (0, 0))) := ⟨h0_⟩
 have n1_ : Aside0 (w45.heap[gb120]? = some (.cells #[.int .i64 0, .int .i64 0, .int .i64 0, .int .i64 0] 42 (0, 0))) := ⟨h1_⟩
 have n2_ : Aside0 (w.heap.size ≤ gb119) := ⟨h2_⟩
 have n3_ : Aside0 (w.heap.size ≤ gb119) := ⟨h3_⟩
 have n4_ : Aside0 (gb120 ≠ gb119) := ⟨h4_⟩
 have n5_ : Aside0 (gb119 ≠ gb120) := ⟨h5_⟩
 have n6_ : Aside0 (w.heap.size ≤ gb120) := ⟨h6_⟩
 have n7_ : Aside0 (w.heap.size ≤ gb120) := ⟨h7_⟩
 have n8_ : Aside0 (Below w.heap.size w w45) := ⟨h8_⟩
 clear HB
 clear h0_ h1_ h2_ h3_ h4_ h5_ h6_ h7_ h8_
 have BK119 := n0_
 have BK120 := n1_
 have GW119 := n2_
 have GE119 := n3_
 have NB120_119 := n4_
 have NB119_120 := n5_
 have GW120 := n6_
 have GE120 := n7_
 have HB := n8_
 clear n0_ n1_ n2_ n3_ n4_ n5_ n6_ n7_ n8_
 have hHeld : w45.cell? (ad117.add ((a2).toNat * 4)) = some (.int .i64 ((rd_T42 l0 a2).f0)) ∧ w45.cell? ⟨(ad117.add ((a2).toNat * 4)).block, (ad117.add ((a2).toNat * 4)).off + 1, none⟩ = some (.int .i64 ((rd_T42 l0 a2).f1)) ∧ w45.cell? ⟨(ad117.add ((a2).toNat * 4)).block, (ad117.add ((a2).toNat * 4)).off + 2, none⟩ = some (.int .i64 ((rd_T42 l0 a2).f2)) ∧ w45.cell? ⟨(ad117.add ((a2).toNat * 4)).block, (ad117.add ((a2).toNat * 4)).off + 3, none⟩ = some (.int .i64 ((rd_T42 l0 a2).f3)) ∧ w45.cell? (ad117.add ((a3).toNat * 4)) = some (.int .i64 ((rd_T42 l0 a3).f0)) ∧ w45.cell? ⟨(ad117.add ((a3).toNat * 4)).block, (ad117.add ((a3).toNat * 4)).off + 1, none⟩ = some (.int .i64 ((rd_T42 l0 a3).f1)) ∧ w45.cell? ⟨(ad117.add ((a3).toNat * 4)).block, (ad117.add ((a3).toNat * 4)).off + 2, none⟩ = some (.int .i64 ((rd_T42 l0 a3).f2)) ∧ w45.cell? ⟨(ad117.add ((a3).toNat * 4)).block, (ad117.add ((a3).toNat * 4)).off + 3, none⟩ = some (.int .i64 ((rd_T42 l0 a3).f3)) := hS_
 refine norm_ (a' := ?_) ?_ ?_
 rotate_left
 ·simp only [putAll, Act.put, List.setIfInBounds_toArray, List.set_cons_zero, List.set_cons_succ]
  rfl
 refine one_ (i := 10) (N := none) q33_12 rfl rfl (one_of HT_.out (by kernel_rfl)) (by decide) (fun K hK => ?_)
 have hs46 : w45.cell? ⟨gb119, 0, none⟩ = some (.int .i64 0) := (blk_cell BK119.out 0).trans rfl
 have hfs46 := blk_frozen BK119.out 0
 have hns46_1 := NB120_119.out
 have hms46_1 := NB119_120.out
 have hs47 : w45.cell? ⟨gb119, 1, none⟩ = some (.int .i64 0) := (blk_cell BK119.out 1).trans rfl
 have hfs47 := blk_frozen BK119.out 1
 have hns47_1 := NB120_119.out
 have hms47_1 := NB119_120.out
 have hs48 : w45.cell? ⟨gb119, 2, none⟩ = some (.int .i64 0) := (blk_cell BK119.out 2).trans rfl
 have hfs48 := blk_frozen BK119.out 2
 have hns48_1 := NB120_119.out
 have hms48_1 := NB119_120.out
 have hs49 : w45.cell? ⟨gb119, 3, none⟩ = some (.int .i64 0) := (blk_cell BK119.out 3).trans rfl
 have hfs49 := blk_frozen BK119.out 3
 have hns49_1 := NB120_119.out
 have hms49_1 := NB119_120.out
 refine skip_ (w1 := ?_) (by rfl) rfl ?_ ?_
 rotate_left
 ·go_simp
  rfl
 refine hK.out _ _ ⟨((cell_far (p := ⟨gb119, _, none⟩) (bne_ hw117_0 GW119.out) _).trans (((cell_far (p := ⟨gb119, _, none⟩) (bne_ hw117_0 GW119.out) _).trans (((cell_far (p := ⟨gb119, _, none⟩) (bne_ hw117_0 GW119.out) _).trans (((cell_far (p := ⟨gb119, _, none⟩) (bne_ hw117_0 GW119.out) _).trans (hHeld.1)))))))), ((cell_far (p := ⟨gb119, _, none⟩) (bne_ hw117_1 GW119.out) _).trans (((cell_far (p := ⟨gb119, _, none⟩) (bne_ hw117_1 GW119.out) _).trans (((cell_far (p := ⟨gb119, _, none⟩) (bne_ hw117_1 GW119.out) _).trans (((cell_far (p := ⟨gb119, _, none⟩) (bne_ hw117_1 GW119.out) _).trans (hHeld.2.1)))))))), ((cell_far (p := ⟨gb119, _, none⟩) (bne_ hw117_2 GW119.out) _).trans (((cell_far (p := ⟨gb119, _, none⟩) (bne_ hw117_2 GW119.out) _).trans (((cell_far (p := ⟨gb119, _, none⟩) (bne_ hw117_2 GW119.out) _).trans (((cell_far (p := ⟨gb119, _, none⟩) (bne_ hw117_2 GW119.out) _).trans (hHeld.2.2.1)))))))), ((cell_far (p := ⟨gb119, _, none⟩) (bne_ hw117_3 GW119.out) _).trans (((cell_far (p := ⟨gb119, _, none⟩) (bne_ hw117_3 GW119.out) _).trans (((cell_far (p := ⟨gb119, _, none⟩) (bne_ hw117_3 GW119.out) _).trans (((cell_far (p := ⟨gb119, _, none⟩) (bne_ hw117_3 GW119.out) _).trans (hHeld.2.2.2.1)))))))), ((cell_far (p := ⟨gb119, _, none⟩) (bne_ hw118_0 GW119.out) _).trans (((cell_far (p := ⟨gb119, _, none⟩) (bne_ hw118_0 GW119.out) _).trans (((cell_far (p := ⟨gb119, _, none⟩) (bne_ hw118_0 GW119.out) _).trans (((cell_far (p := ⟨gb119, _, none⟩) (bne_ hw118_0 GW119.out) _).trans (hHeld.2.2.2.2.1)))))))), ((cell_far (p := ⟨gb119, _, none⟩) (bne_ hw118_1 GW119.out) _).trans (((cell_far (p := ⟨gb119, _, none⟩) (bne_ hw118_1 GW119.out) _).trans (((cell_far (p := ⟨gb119, _, none⟩) (bne_ hw118_1 GW119.out) _).trans (((cell_far (p := ⟨gb119, _, none⟩) (bne_ hw118_1 GW119.out) _).trans (hHeld.2.2.2.2.2.1)))))))), ((cell_far (p := ⟨gb119, _, none⟩) (bne_ hw118_2 GW119.out) _).trans (((cell_far (p := ⟨gb119, _, none⟩) (bne_ hw118_2 GW119.out) _).trans (((cell_far (p := ⟨gb119, _, none⟩) (bne_ hw118_2 GW119.out) _).trans (((cell_far (p := ⟨gb119, _, none⟩) (bne_ hw118_2 GW119.out) _).trans (hHeld.2.2.2.2.2.2.1)))))))), ((cell_far (p := ⟨gb119, _, none⟩) (bne_ hw118_3 GW119.out) _).trans (((cell_far (p := ⟨gb119, _, none⟩) (bne_ hw118_3 GW119.out) _).trans (((cell_far (p := ⟨gb119, _, none⟩) (bne_ hw118_3 GW119.out) _).trans (((cell_far (p := ⟨gb119, _, none⟩) (bne_ hw118_3 GW119.out) _).trans (hHeld.2.2.2.2.2.2.2))))))))⟩ (fun hHeld => ?_)
 clear hK K
 refine one_ (i := 11) (N := none) q33_13 rfl rfl (one_of HT_.out (by kernel_rfl)) (by decide) (fun K hK => ?_)
 have hs50 : w45.cell? ⟨gb120, 0, none⟩ = some (.int .i64 0) := (blk_cell BK120.out 0).trans rfl
 have hfs50 := blk_frozen BK120.out 0
 have hns50_0 := NB119_120.out
 have hms50_0 := NB120_119.out
 have hs51 : w45.cell? ⟨gb120, 1, none⟩ = some (.int .i64 0) := (blk_cell BK120.out 1).trans rfl
 have hfs51 := blk_frozen BK120.out 1
 have hns51_0 := NB119_120.out
 have hms51_0 := NB120_119.out
 have hs52 : w45.cell? ⟨gb120, 2, none⟩ = some (.int .i64 0) := (blk_cell BK120.out 2).trans rfl
 have hfs52 := blk_frozen BK120.out 2
 have hns52_0 := NB119_120.out
 have hms52_0 := NB120_119.out
 have hs53 : w45.cell? ⟨gb120, 3, none⟩ = some (.int .i64 0) := (blk_cell BK120.out 3).trans rfl
 have hfs53 := blk_frozen BK120.out 3
 have hns53_0 := NB119_120.out
 have hms53_0 := NB120_119.out
 refine skip_ (w1 := ?_) (by rfl) rfl ?_ ?_
 rotate_left
 ·go_simp
  rfl
 refine hK.out _ _ ⟨((cell_far (p := ⟨gb120, _, none⟩) (bne_ hw117_0 GW120.out) _).trans (((cell_far (p := ⟨gb120, _, none⟩) (bne_ hw117_0 GW120.out) _).trans (((cell_far (p := ⟨gb120, _, none⟩) (bne_ hw117_0 GW120.out) _).trans (((cell_far (p := ⟨gb120, _, none⟩) (bne_ hw117_0 GW120.out) _).trans (hHeld.1)))))))), ((cell_far (p := ⟨gb120, _, none⟩) (bne_ hw117_1 GW120.out) _).trans (((cell_far (p := ⟨gb120, _, none⟩) (bne_ hw117_1 GW120.out) _).trans (((cell_far (p := ⟨gb120, _, none⟩) (bne_ hw117_1 GW120.out) _).trans (((cell_far (p := ⟨gb120, _, none⟩) (bne_ hw117_1 GW120.out) _).trans (hHeld.2.1)))))))), ((cell_far (p := ⟨gb120, _, none⟩) (bne_ hw117_2 GW120.out) _).trans (((cell_far (p := ⟨gb120, _, none⟩) (bne_ hw117_2 GW120.out) _).trans (((cell_far (p := ⟨gb120, _, none⟩) (bne_ hw117_2 GW120.out) _).trans (((cell_far (p := ⟨gb120, _, none⟩) (bne_ hw117_2 GW120.out) _).trans (hHeld.2.2.1)))))))), ((cell_far (p := ⟨gb120, _, none⟩) (bne_ hw117_3 GW120.out) _).trans (((cell_far (p := ⟨gb120, _, none⟩) (bne_ hw117_3 GW120.out) _).trans (((cell_far (p := ⟨gb120, _, none⟩) (bne_ hw117_3 GW120.out) _).trans (((cell_far (p := ⟨gb120, _, none⟩) (bne_ hw117_3 GW120.out) _).trans (hHeld.2.2.2.1)))))))), ((cell_far (p := ⟨gb120, _, none⟩) (bne_ hw118_0 GW120.out) _).trans (((cell_far (p := ⟨gb120, _, none⟩) (bne_ hw118_0 GW120.out) _).trans (((cell_far (p := ⟨gb120, _, none⟩) (bne_ hw118_0 GW120.out) _).trans (((cell_far (p := ⟨gb120, _, none⟩) (bne_ hw118_0 GW120.out) _).trans (hHeld.2.2.2.2.1)))))))), ((cell_far (p := ⟨gb120, _, none⟩) (bne_ hw118_1 GW120.out) _).trans (((cell_far (p := ⟨gb120, _, none⟩) (bne_ hw118_1 GW120.out) _).trans (((cell_far (p := ⟨gb120, _, none⟩) (bne_ hw118_1 GW120.out) _).trans (((cell_far (p := ⟨gb120, _, none⟩) (bne_ hw118_1 GW120.out) _).trans (hHeld.2.2.2.2.2.1)))))))), ((cell_far (p := ⟨gb120, _, none⟩) (bne_ hw118_2 GW120.out) _).trans (((cell_far (p := ⟨gb120, _, none⟩) (bne_ hw118_2 GW120.out) _).trans (((cell_far (p := ⟨gb120, _, none⟩) (bne_ hw118_2 GW120.out) _).trans (((cell_far (p := ⟨gb120, _, none⟩) (bne_ hw118_2 GW120.out) _).trans (hHeld.2.2.2.2.2.2.1)))))))), ((cell_far (p := ⟨gb120, _, none⟩) (bne_ hw118_3 GW120.out) _).trans (((cell_far (p := ⟨gb120, _, none⟩) (bne_ hw118_3 GW120.out) _).trans (((cell_far (p := ⟨gb120, _, none⟩) (bne_ hw118_3 GW120.out) _).trans (((cell_far (p := ⟨gb120, _, none⟩) (bne_ hw118_3 GW120.out) _).trans (hHeld.2.2.2.2.2.2.2))))))))⟩ (fun hHeld => ?_)
 clear hK K
 refine done_ (done_of HT_.out (by kernel_rfl)) ?_
 have hnb54 := NB119_120.out
 have hnc54 := NB120_119.out
 obtain ⟨hcz55_0, hcz55_1, hcz55_2, hcz55_3, hfz55_0, hfz55_1, hfz55_2, hfz55_3⟩ := bz4 BK119.out
 obtain ⟨hcz56_0, hcz56_1, hcz56_2, hcz56_3, hfz56_0, hfz56_1, hfz56_2, hfz56_3⟩ := bz4 BK120.out
 try go_wp2
 go_ret
 exact ⟨by first | rfl | (simp [errW_none, errW_some] <;> rfl) | (simp [*, errW_none, errW_some] <;> rfl), by repeat (first | (with_reducible first | exact bw HB.out | refine bset ?_ | apply bA | apply bN | apply bD) | exact HB.out)⟩

/-! ### spec_l3Order: function 24 -/
abbrev q24_0 : Array Bool := ⟨rl_ [12] false⟩
abbrev q24_1 : Array Bool := ⟨rl_ [6, 1, 3, 2] true⟩
abbrev q24_2 : Array Bool := ⟨rl_ [5, 2, 3, 2] true⟩
abbrev q24_3 : Array Bool := ⟨rl_ [3, 1, 2, 1, 3, 2] true⟩
abbrev q24_4 : Array Bool := ⟨rl_ [10, 2] true⟩
abbrev q24_5 : Array Bool := ⟨rl_ [11, 1] true⟩
/-- How many of a row a job stands behind. -/
def spec_l3Order.posR (l0 : List (S42)) (obj x : Int) : List Int → Option Nat
 | [] => some 0
 | y :: r => (spec_l3Gap.f l0 obj y x).bind fun g => if g ≤ 0 then (spec_l3Order.posR l0 obj x r).map (· + 1) else some 0
def spec_l3Order.go (l0 : List (S42)) (obj : Int) : Nat → Nat → List Int → Option (List Int)
 | 0, _, out => some out
 | d + 1, i, out => (spec_l3Order.posR l0 obj (i : Int) out).bind fun k => spec_l3Order.go l0 obj d (i + 1) (out.take k ++ (i : Int) :: out.drop k)
def spec_l3Order.f (l0 : List (S42)) (a1 : Int) : Option (List (Int)) := if l0.length ≤ 1000000 then spec_l3Order.go l0 a1 l0.length 0 [] else none
theorem spec_l3Order.posR_le (l0 : List (S42)) (obj x : Int) : ∀ (r : List Int) (k : Nat), spec_l3Order.posR l0 obj x r = some k → k ≤ r.length
 | [], k, h => by
  simp only [spec_l3Order.posR, Option.some.injEq] at h
  simp; omega
 | y :: r, k, h => by
  rw [spec_l3Order.posR] at h
  obtain ⟨g, hg, h⟩ := Option.bind_eq_some_iff.mp h
  split at h
  ·obtain ⟨j, hj, rfl⟩ := Option.map_eq_some_iff.mp h
   have := spec_l3Order.posR_le l0 obj x r j hj
   simp; omega
  ·simp only [Option.some.injEq] at h
   omega
theorem spec_l3Order.bS {w' w : World} {P : Nat → Prop} {v : Value} {xs : List Int} {base : Nat} (h : Kd.R (Kd.int .i64) 3 w base P v xs) [k : Bs w' w] : Kd.R (Kd.int .i64) 3 w' base P v xs := bR h
set_option maxHeartbeats 8000000 in
set_option maxRecDepth 100000 in
theorem spec_l3Order.calls (A0 : Option Addr) (c0 : Nat) (l0 : List (S42)) (a1 : Int) (r : List (Int)) (w : World) (hr0 : Kd.C k42 w A0 l0.length l0) (hc0 : l0.length ≤ c0) (h : spec_l3Order.f l0 a1 = some r) :
  Calls Try.prog 24 #[.slice A0 l0.length c0, .int .i64 a1] w fun e w' => ∃ v0_ : Value, e = .returned (v0_) ∧ Kd.R (Kd.int .i64) 3 w' w.heap.size (fun _ => True) v0_ r ∧ Below w.heap.size w w' := by
 unfold spec_l3Order.f at h
 split at h
 case isFalse => cases h
 case isTrue hn =>
 have HR0 := Aside0.mk hr0
 have HC0 := Aside0.mk hc0
 have HL := Aside0.mk hn
 have H' := Aside0.mk h
 have HB := Aside0.mk (Below.refl w.heap.size w)
 clear hr0 hc0 hn h
 go_enter Try.func24, Try.ntmps24
 go_wp2_with ((with_reducible refine gate_dst (N := 8) rfl ?_); refine Kd.R_lit (Kd.int .i64) _ 3 ?hg (N := 8) ?hd (xs := ([] : List Int)) (inner := []) (ok := fun _ => True) (okp := fun _ => True) ?hr ?hp (fun _ hk => hk) trivial (Below.refl _ _) (Nat.le_refl _) (by simp) ?_; (case hd => rfl); (case hg => rfl); (case hr => first | (go_simp; done) | (go_simp; rfl)); (case hp => exact (Reps.none _ _)); intro v8 w3 ho4 hb hg_ hnew_; clear hg_ hnew_; have HR := Aside0.mk (Kd.R_lower ho4 (below_size (bw HB.out))); have n1_ := Aside0.mk (below_step (bw HB.out) hb); replace HB := n1_; clear n1_ hb ho4)
 go_loopg [5, 6] l0.length (fun kq v5 v6 w' => ∃ (i : Nat) (out : List Int), v6 = .int .i64 (i : Int) ∧ Aside0 (i + kq = l0.length) ∧ Aside0 (out.length = i) ∧ Aside0 (spec_l3Order.go l0 a1 kq i out = some r) ∧ Aside0 (Kd.R (Kd.int .i64) 3 w' w.heap.size (fun _ => True) v5 out) ∧ Aside0 (Below w.heap.size w w'))
 case atStart => exact ⟨0, [], rfl, ⟨Nat.zero_add _⟩, ⟨rfl⟩, H', HR, HB⟩
 case round =>
  clear H' HB HR
  obtain ⟨i, out, rfl, HI, HO, H, HR, HB⟩ := hrel
  have hi0 := HI.out
  have hln := HL.out
  have hol := HO.out
  cases gk with
  | zero =>
   have e3 : decide ((i : Int) < (l0.length : Int)) = false := decide_eq_false (by omega)
   have e3n : decide (i < l0.length) = false := decide_eq_false (by omega)
   obtain rfl : out = r := by
    have := H.out
    simpa [spec_l3Order.go] using this
   clear hi0 hln hol
   go_wp2
   go_ret
   exact ⟨_, rfl, HR.out, HB.out⟩
  | succ kq =>
   have e3 : decide ((i : Int) < (l0.length : Int)) = true := decide_eq_true (by omega)
   have e3n : decide (i < l0.length) = true := decide_eq_true (by omega)
   obtain ⟨kk, hkk, hrest⟩ := Option.bind_eq_some_iff.mp (show (spec_l3Order.posR l0 a1 (i : Int) out).bind _ = some r from H.out)
   have HK := Aside0.mk hkk
   have HS := Aside0.mk hrest
   have HKL := Aside0.mk (spec_l3Order.posR_le _ _ _ _ _ hkk)
   clear hkk hrest
   obtain ⟨Ao, co, eo⟩ := Kd.R_slice HR.out
   subst eo
   clear hi0 hln hol
   go_wp2
   go_loopg [7] out.length (fun q v7 w' => ∃ (j : Nat) (rest : List Int) (k2 : Nat), v7 = .int .i64 (j : Int) ∧ Aside0 (j + q = out.length) ∧ Aside0 (rest = out.drop j) ∧ Aside0 (spec_l3Order.posR l0 a1 (i : Int) rest = some k2 ∧ j + k2 = kk) ∧ Aside0 (Kd.R (Kd.int .i64) 3 w' w.heap.size (fun _ => True) (.slice Ao out.length co) out) ∧ Aside0 (Below w.heap.size w w'))
   case atStart => exact ⟨0, out, kk, rfl, ⟨Nat.zero_add _⟩, ⟨rfl⟩, ⟨HK.out, Nat.zero_add _⟩, HR, HB⟩
   case round =>
    clear HK HR HB
    obtain ⟨j, rest, k2, rfl, HJ, HRest, HK, HR, HB⟩ := hrel
    have hj := HJ.out
    have hln := HL.out
    have hol := HO.out
    have hi0 := HI.out
    by_cases hcont : ∃ y r2 g, rest = y :: r2 ∧ spec_l3Gap.f l0 a1 y (i : Int) = some g ∧ g ≤ 0
    ·obtain ⟨y, r2, g, hr2, hgap, hg0⟩ := hcont
     have hjl : j < out.length := by
      have := congrArg List.length (hr2.symm.trans HRest.out)
      simp only [List.length_cons, List.length_drop] at this
      omega
     have d1 : decide ((j : Int) < (out.length : Int)) = true := decide_eq_true (by omega)
     have d1n : decide (j < out.length) = true := decide_eq_true (by omega)
     have q1n := eq_true (show j < out.length by omega)
     have p1 : 0 ≤ (j : Int) := by omega
     have q1 : (j : Int) < (out.length : Int) := by omega
     obtain ⟨ad, ea, hxc⟩ := Kd.at_int (Kd.R_reads' HR.out).2.2 (j : Int) p1 q1
     have hy : rd out (j : Int) = y := by
      have h1 : out.drop j = y :: r2 := by rw [← HRest.out, hr2]
      have h2 : out[j]? = some y := by rw [← List.head?_drop, h1]; rfl
      simp only [rd, Int.toNat_natCast, List.getD_eq_getElem?_getD, h2, Option.getD_some]
     rw [hy, Int.toNat_natCast] at hxc
     cases ea
     have HK2 : Aside0 (spec_l3Order.posR l0 a1 (i : Int) r2 = some (k2 - 1) ∧ j + 1 + (k2 - 1) = kk) := ⟨by
      have h1 := HK.out.1
      rw [hr2, spec_l3Order.posR, hgap, Option.bind_some, if_pos hg0] at h1
      obtain ⟨z, hz, e⟩ := Option.map_eq_some_iff.mp h1
      have h2 := HK.out.2
      subst e
      exact ⟨hz, by omega⟩⟩
     have HR2 : Aside0 (r2 = out.drop (j + 1)) := ⟨by
      have h1 : out.drop j = y :: r2 := by rw [← HRest.out, hr2]
      rw [← List.drop_drop, h1]; rfl⟩
     have g1 : decide (g ≤ 0) = true := decide_eq_true hg0
     have HGAP := Aside0.mk hgap
     have hw : wrap64 ((j : Int) + 1) = ((j + 1 : Nat) : Int) := by unfold wrap64; omega
     have hw2 : IntKind.i64.wrap ((j : Int) + 1) = ((j + 1 : Nat) : Int) := (i64_w _).trans hw
     have p1b := eq_true p1
     have q1b := eq_true q1
     have HJ2 := Aside0.mk (show (j + 1) + (gk - 1) = out.length ∧ gk - 1 < gk from by omega)
     clear hj hln hol hi0 hgap hr2 hy hjl
     go_wp2_with (go_at_call 33; (with_reducible refine (spec_l3Gap.calls A0 c0 l0 a1 y (i : Int) g _ ?side1 ?side2 HGAP.out).mono ?_); (case side1 => exact bC HR0.out HB.out); (case side2 => exact HC0.out); rintro e w' ⟨rfl, hbc⟩; have n0 := Aside0.mk (Kd.R_below (bR HR.out) hbc); have n1 := Aside0.mk (below_step (bw HB.out) hbc); clear hbc HR HB; have HR := n0; have HB := n1; clear n0 n1)
     go_roundg (gk - 1)
     case measure => exact HJ2.out.2
     case rel => exact ⟨j + 1, r2, k2 - 1, (by simp), ⟨HJ2.out.1⟩, HR2, HK2, HR, HB⟩
    -- the place is found
    have HJK : Aside0 (j = kk ∧ kk ≤ out.length) := ⟨by
     have h1 := HK.out.1
     have h2 := HK.out.2
     have h3 := HKL.out
     cases rest with
     | nil =>
      simp only [spec_l3Order.posR, Option.some.injEq] at h1
      omega
     | cons y r2 =>
      rw [spec_l3Order.posR] at h1
      obtain ⟨g, hg, h1⟩ := Option.bind_eq_some_iff.mp h1
      have hn : ¬ g ≤ 0 := fun h => hcont ⟨y, r2, g, rfl, hg, h⟩
      rw [if_neg hn] at h1
      simp only [Option.some.injEq] at h1
      omega⟩
    by_cases hje : j < out.length
    rotate_left
    ·have d1 : decide ((j : Int) < (out.length : Int)) = false := decide_eq_false (by omega)
     have d1n : decide (j < out.length) = false := decide_eq_false hje
     clear hj hln hol hi0 hje hcont
     go_wp2
     have HCC := Aside0.mk (Kd.R_reads' HR.out).2.1
     obtain ⟨hjk, hkl⟩ := HJK.out
     subst hjk
     have hiL : i < l0.length := by have := HI.out; omega
     have HW := Aside0.mk (show wrap64 ((i : Int) + 1) = ((i + 1 : Nat) : Int) from by have := HL.out; unfold wrap64; omega)
     have HLEN := Aside0.mk (show (out.take j ++ (i : Int) :: out.drop j).length = i + 1 from by have := HO.out; simp only [List.length_append, List.length_take, List.length_cons, List.length_drop]; omega)
     have HAP := Aside0.mk (show (out.take j ++ [(i : Int)]).length + (out.length - j) ≤ 1000001 from by have := HO.out; have := HL.out; simp only [List.length_append, List.length_take, List.length_cons, List.length_nil]; omega)
     have hcL := HCC.out
     have hoM : out.length ≤ 1000000 := by have := HO.out; have := HL.out; omega
     have AOWN := Aside0.mk (show spec_l1Own.f (out.take j) = some (out.take j) from by
      unfold spec_l1Own.f
      rw [Option.bind_some, List.length_nil, List.length_take, if_pos (by omega)]
      rfl)
     have s1 := eq_true (show 0 ≤ (j : Int) by omega)
     have s2 := eq_true (show (j : Int) ≤ (out.length : Int) by omega)
     have s3 := eq_true (show (j : Int) ≤ (co : Int) by omega)
     have s4 := eq_true (show j ≤ co by omega)
     have s5 := eq_true (show j ≤ out.length by omega)
     have s6 := eq_true (show out.length ≤ co by omega)
     have s7 := eq_true (show (out.length : Int) ≤ (co : Int) by omega)
     have n0 := Aside0.mk (Kd.R_drew HR.out)
     have n1 := Aside0.mk (below_drew1 HB.out)
     replace HR := n0
     replace HB := n1
     clear n0 n1 HK HJ HRest
     refine start_ (n := 12) (S := fun _ => True) (ds := []) q24_0 (by kernel_rfl) rfl rfl trivial (fun hHeld => ?_)
     generalize wr.drew = w25 at HR HB hHeld ⊢
     refine puq_ (i := 0) (N := some 32) (v := ?_) (a' := ?_) rfl rfl (by kernel_rfl) (fun _ _ _ h => h) (Or.inl ⟨by rfl, ?_⟩) ?_ ?_
     rotate_left
     ·intro w'
      go_simp
      with_reducible rfl
     rotate_left
     ·simp only [aq_]
      rfl
     refine puq_ (i := 1) (N := some 33) (v := ?_) (a' := ?_) rfl rfl (by kernel_rfl) (fun _ _ _ h => h) (Or.inl ⟨by rfl, ?_⟩) ?_ ?_
     rotate_left
     ·intro w'
      go_simp
      with_reducible rfl
     rotate_left
     ·simp only [aq_]
      rfl
     refine puq_ (i := 2) (N := some 34) (v := ?_) (a' := ?_) rfl rfl (by kernel_rfl) (fun _ _ _ h => h) (Or.inl ⟨by rfl, ?_⟩) ?_ ?_
     rotate_left
     ·intro w'
      go_simp
      with_reducible rfl
     rotate_left
     ·simp only [aq_]
      rfl
     refine puq_ (i := 4) (N := some 36) (v := ?_) (a' := ?_) rfl rfl (by kernel_rfl) (fun _ _ _ h => h) (Or.inl ⟨by rfl, ?_⟩) ?_ ?_
     rotate_left
     ·intro w'
      go_simp
      with_reducible rfl
     rotate_left
     ·simp only [aq_]
      rfl
     refine puq_ (i := 7) (N := some 39) (v := ?_) (a' := ?_) rfl rfl (by kernel_rfl) (fun _ _ _ h => h) (Or.inl ⟨by rfl, ?_⟩) ?_ ?_
     rotate_left
     ·intro w'
      go_simp
      with_reducible rfl
     rotate_left
     ·simp only [aq_]
      rfl
     refine puq_ (i := 8) (N := some 40) (v := ?_) (a' := ?_) rfl rfl (by kernel_rfl) (fun _ _ _ h => h) (Or.inl ⟨by rfl, ?_⟩) ?_ ?_
     rotate_left
     ·intro w'
      go_simp
      with_reducible rfl
     rotate_left
     ·simp only [aq_]
      rfl
     refine puq_ (i := 9) (N := some 41) (v := ?_) (a' := ?_) rfl rfl (by kernel_rfl) (fun _ _ _ h => h) (Or.inl ⟨by rfl, ?_⟩) ?_ ?_
     rotate_left
     ·intro w'
      go_simp
      with_reducible rfl
     rotate_left
     ·simp only [aq_]
      rfl
     refine join_ (σ := Value × Value) 3 q24_1 (fun s_ => [(35, s_.1), (37, s_.2)]) (fun s_ w' => Kd.R (Kd.int .i64) 3 w' w.heap.size (fun _ => True) s_.1 (out.take j) ∧ Kd.R (Kd.int .i64) 3 w' w.heap.size (fun _ => True) s_.2 [(i : Int)] ∧ Kd.R (Kd.int .i64) 3 w' w.heap.size (fun k_ => some k_ ≠ s_.1.ownBlock) (.slice Ao out.length co) out ∧ Below w.heap.size w w') ?_ ?_
     rotate_left
     ·intro hCont
      refine two_ (i := 3) (j := 5) (Ni := some 35) (Nj := some 37) q24_2 q24_3 rfl rfl rfl rfl (by kernel_rfl) (by decide) (by decide) (fun K hK => ?_) (fun K hK => ?_)
      ·skip
       refine goes_ Try.func15 (by kernel_rfl) rfl #[.slice Ao j co] (by rfl) rfl rfl (by (try simp only [mA_]); first | done | rfl | (simp only [List.length_drop, List.length_take]; rfl)) ?_
       refine calls_args (a' := #[.slice Ao (out.take j).length co]) (by rw [List.length_take, Nat.min_eq_left hkl]) ?_
       with_reducible refine (spec_l1Own.calls Ao co (out.take j) (out.take j) _ ?side1 ?side2 AOWN.out).mono ?_
       case side1 => exact (Kd.R_reads' (Kd.R_take (bR HR.out) hkl)).2.2
       case side2 => rw [List.length_take]; omega
       rintro e w35 ⟨v35, rfl, ho0, hb⟩
       refine ⟨_, rfl, ?_⟩
       have n0 := Aside0.mk (Kd.R_elder' (bR HR.out) (Kd.R_base ho0) hb)
       have n1 := Aside0.mk (Kd.R_lower ho0 (below_size (bw HB.out)))
       have n2 := Aside0.mk (below_step (bw HB.out) hb)
       replace HR := n0
       have HO35 := n1
       replace HB := n2
       clear n0 n1 n2 hb ho0
       refine hK.out _ _ trivial (fun hHeld => ?_)
       clear hK K
       refine norm_ (a' := ?_) ?_ ?_
       rotate_left
       ·show Act.put _ (some 35) _ = _
        simp only [aq_]
        rfl
       refine one_ (i := 5) (N := some 37) q24_1 rfl rfl (by kernel_rfl) (by decide) (fun K hK => ?_)
       refine Kd.R_lit_step (Kd.int .i64) _ 3 ?hg (N := 37) ?hd (xs := ([(i : Int)] : List Int)) (inner := [.int .i64 (i : Int)]) (ok := fun _ => True) (okp := fun _ => True) ?hr ?hp (fun _ hk => hk) trivial (Below.refl _ _) (Nat.le_refl _) (by simp) ?_
       case hd => rfl
       case hg => rfl
       case hr => first | (go_simp; done) | (go_simp; rfl)
       case hp => exact (Reps.one (show Kd.M (Kd.int .i64) _ _ _ (i : Int) [.int .i64 (i : Int)] from rfl) (Reps.none _ _))
       intro v37 w37 ho4 hb2 hg_ hnew_
       clear hg_ hnew_
       have m0 := Aside0.mk (Kd.R_below (bR HR.out) hb2)
       have m1 := Aside0.mk (Kd.R_lower ho4 (below_size (bw HB.out)))
       have m2 := Aside0.mk (below_step (bw HB.out) hb2)
       have m3 := Aside0.mk (Kd.R_below (bR HO35.out) hb2)
       replace HR := m0
       have HO37 := m1
       replace HB := m2
       replace HO35 := m3
       clear m0 m1 m2 m3 hb2 ho4
       refine hK.out _ _ trivial (fun hHeld => ?_)
       clear hK K
       refine norm_ (a' := ?_) ?_ ?_
       rotate_left
       ·show Act.put _ (some 37) _ = _
        simp only [aq_]
        rfl
       exact norm_ (by simp only [putAll, Act.put, List.setIfInBounds_toArray, List.set_cons_zero, List.set_cons_succ]) (hCont (v35, v37) _ ⟨bR HO35.out, bR HO37.out, (by first | exact Kd.R_mono HR.out (fun _ hk => hk.2) | exact Kd.R_mono (bR HR.out) (fun _ hk => hk.2)), bw HB.out⟩)
      ·skip
       refine Kd.R_lit_step (Kd.int .i64) _ 3 ?hg (N := 37) ?hd (xs := ([(i : Int)] : List Int)) (inner := [.int .i64 (i : Int)]) (ok := fun _ => True) (okp := fun _ => True) ?hr ?hp (fun _ hk => hk) trivial (Below.refl _ _) (Nat.le_refl _) (by simp) ?_
       case hd => rfl
       case hg => rfl
       case hr => first | (go_simp; done) | (go_simp; rfl)
       case hp => exact (Reps.one (show Kd.M (Kd.int .i64) _ _ _ (i : Int) [.int .i64 (i : Int)] from rfl) (Reps.none _ _))
       intro v37 w37 ho4 hb2 hg_ hnew_
       clear hg_ hnew_
       have m0 := Aside0.mk (Kd.R_below (bR HR.out) hb2)
       have m1 := Aside0.mk (Kd.R_lower ho4 (below_size (bw HB.out)))
       have m2 := Aside0.mk (below_step (bw HB.out) hb2)
       replace HR := m0
       have HO37 := m1
       replace HB := m2
       clear m0 m1 m2 hb2 ho4
       refine hK.out _ _ trivial (fun hHeld => ?_)
       clear hK K
       refine norm_ (a' := ?_) ?_ ?_
       rotate_left
       ·show Act.put _ (some 37) _ = _
        simp only [aq_]
        rfl
       refine one_ (i := 3) (N := some 35) q24_1 rfl rfl (by kernel_rfl) (by decide) (fun K hK => ?_)
       refine goes_ Try.func15 (by kernel_rfl) rfl #[.slice Ao j co] (by rfl) rfl rfl (by (try simp only [mA_]); first | done | rfl | (simp only [List.length_drop, List.length_take]; rfl)) ?_
       refine calls_args (a' := #[.slice Ao (out.take j).length co]) (by rw [List.length_take, Nat.min_eq_left hkl]) ?_
       with_reducible refine (spec_l1Own.calls Ao co (out.take j) (out.take j) _ ?side1 ?side2 AOWN.out).mono ?_
       case side1 => exact (Kd.R_reads' (Kd.R_take (bR HR.out) hkl)).2.2
       case side2 => rw [List.length_take]; omega
       rintro e w35 ⟨v35, rfl, ho0, hb⟩
       refine ⟨_, rfl, ?_⟩
       have n0 := Aside0.mk (Kd.R_elder' (bR HR.out) (Kd.R_base ho0) hb)
       have n1 := Aside0.mk (Kd.R_lower ho0 (below_size (bw HB.out)))
       have n2 := Aside0.mk (below_step (bw HB.out) hb)
       have n3 := Aside0.mk (Kd.R_below (bR HO37.out) hb)
       replace HR := n0
       have HO35 := n1
       replace HB := n2
       replace HO37 := n3
       clear n0 n1 n2 n3 hb ho0
       refine hK.out _ _ trivial (fun hHeld => ?_)
       clear hK K
       refine norm_ (a' := ?_) ?_ ?_
       rotate_left
       ·show Act.put _ (some 35) _ = _
        simp only [aq_]
        rfl
       exact norm_ (by simp only [putAll, Act.put, List.setIfInBounds_toArray, List.set_cons_zero, List.set_cons_succ]) (hCont (v35, v37) _ ⟨bR HO35.out, bR HO37.out, (by first | exact Kd.R_mono HR.out (fun _ hk => hk.2) | exact Kd.R_mono (bR HR.out) (fun _ hk => hk.2)), bw HB.out⟩)
     clear HR HB
     rintro ⟨v35, v37⟩ w38 ⟨h35, h37, hR8, hB8⟩
     obtain ⟨A37, c37, e37⟩ := Kd.R_slice h37
     subst e37
     refine norm_ (a' := ?_) (by simp only [putAll, Act.put, List.setIfInBounds_toArray, List.set_cons_zero, List.set_cons_succ]; rfl) ?_
     refine one_ (i := 6) (N := some 38) q24_4 rfl rfl (by kernel_rfl) (by decide) (fun K hK => ?_)
     refine Kd.R_append_rows_step (Kd.int .i64) (w0 := w) w.heap.size (by rfl) (.tmp 35) (.tmp 37) 24 3 (.int .i64 0) 8 rfl Try.underlying24 info3 rfl (by decide) (by omega) v35 (out.take j) [(i : Int)] _ _ _ (fun _ => True) (fun _ => False) rfl rfl ?aO ?aR (fun _ _ h => h) (fun _ h => h.elim) ?aF ?aB ?aS ?aL ?_
     case aO => exact h35
     case aR => exact (Kd.R_reads' h37).2.2
     case aF => exact (fun _ _ => trivial)
     case aB => exact hB8
     case aS => exact below_size hB8
     case aL => simp only [List.length_take, List.length_cons, List.length_nil]; omega
     intro v38 w39 ho38 hb38 hg38 hat38
     have hR9 := Kd.R_after (ok := fun _ => True) (Kd.R_mono hR8 (fun _ hk => ⟨trivial, hk⟩)) hg38 hat38
     clear hg38 hat38 h35 h37 hR8 hB8
     refine hK.out _ _ trivial (fun hHeld => ?_)
     clear hK K
     refine norm_ (a' := ?_) ?_ ?_
     rotate_left
     ·show Act.put _ (some 38) _ = _
      simp only [aq_]
      rfl
     refine one_ (i := 10) (N := some 42) q24_5 rfl rfl (by kernel_rfl) (by decide) (fun K hK => ?_)
     refine Kd.R_append_rows_step (Kd.int .i64) (w0 := w) w.heap.size (by rfl) (.tmp 38) (.tmp 41) 24 3 (.int .i64 0) 8 rfl Try.underlying24 info3 rfl (by decide) (by omega) v38 (out.take j ++ [(i : Int)]) (out.drop j) _ _ _ (fun _ => True) (fun _ => False) rfl rfl ?aO ?aR (fun _ _ h => h) (fun _ h => h.elim) ?aF ?aB ?aS ?aL ?_
     case aO => exact ho38
     case aR =>
      have hcd := Kd.C_drop (Kd.R_reads' hR9).2.2 hkl hcL
      rw [List.length_drop] at hcd
      simp only [show (Kd.int .i64).sz = 1 from rfl, Nat.mul_one] at hcd
      exact hcd
     case aF => exact (fun _ _ => trivial)
     case aB => exact hb38
     case aS => exact below_size hb38
     case aL => have := HAP.out; omega
     intro v42 w43 ho42 hb42 hg42 hat42
     clear hg42 hat42 ho38 hb38 hR9
     refine hK.out _ _ trivial (fun hHeld => ?_)
     clear hK K
     refine norm_ (a' := ?_) ?_ ?_
     rotate_left
     ·show Act.put _ (some 42) _ = _
      simp only [aq_]
      rfl
     refine puq_ (i := 11) (N := some 5) (v := ?_) (a' := ?_) rfl rfl (by kernel_rfl) (fun _ _ _ h => h) (Or.inl ⟨by rfl, ?_⟩) ?_ ?_
     rotate_left
     ·intro w'
      go_simp
      with_reducible rfl
     rotate_left
     ·simp only [aq_]
      rfl
     refine done_ (by kernel_rfl) ?_
     have HR := Aside0.mk ho42
     have HB := Aside0.mk hb42
     clear ho42 hb42
     go_wp2
     all_goals (go_roundg kq; (case measure => omega); (case rel => exact ⟨i + 1, out.take j ++ (i : Int) :: out.drop j, (by first | rfl | rw [HW.out]), ⟨by have := HI.out; omega⟩, HLEN, HS, ⟨by have := HR.out; simpa using this⟩, HB⟩))
    obtain ⟨y, hy, g, hgap, hg0⟩ : ∃ y, out[j]? = some y ∧ ∃ g, spec_l3Gap.f l0 a1 y (i : Int) = some g ∧ ¬ g ≤ 0 := by
     have h1 := HK.out.1
     have h4 : out[j]? = some out[j] := List.getElem?_eq_getElem hje
     have h5 : rest = out[j] :: out.drop (j + 1) := by rw [HRest.out]; exact List.drop_eq_getElem_cons hje
     rw [h5, spec_l3Order.posR] at h1
     obtain ⟨g, hg, h1⟩ := Option.bind_eq_some_iff.mp h1
     exact ⟨_, h4, g, hg, fun h => hcont ⟨_, _, g, h5, hg, h⟩⟩
    have d1 : decide ((j : Int) < (out.length : Int)) = true := decide_eq_true (by omega)
    have d1n : decide (j < out.length) = true := decide_eq_true (by omega)
    have q1n := eq_true (show j < out.length by omega)
    have p1 : 0 ≤ (j : Int) := by omega
    have q1 : (j : Int) < (out.length : Int) := by omega
    obtain ⟨ad, ea, hxc⟩ := Kd.at_int (Kd.R_reads' HR.out).2.2 (j : Int) p1 q1
    have hy2 : rd out (j : Int) = y := by simp only [rd, Int.toNat_natCast, List.getD_eq_getElem?_getD, hy, Option.getD_some]
    rw [hy2, Int.toNat_natCast] at hxc
    cases ea
    have g1 : decide (g ≤ 0) = false := decide_eq_false hg0
    have HGAP := Aside0.mk hgap
    have p1b := eq_true p1
    have q1b := eq_true q1
    clear hj hln hol hi0 hgap hy hy2 hje hcont
    go_wp2_with (go_at_call 33; (with_reducible refine (spec_l3Gap.calls A0 c0 l0 a1 y (i : Int) g _ ?side1 ?side2 HGAP.out).mono ?_); (case side1 => exact bC HR0.out HB.out); (case side2 => exact HC0.out); rintro e w' ⟨rfl, hbc⟩; have n0 := Aside0.mk (Kd.R_below (bR HR.out) hbc); have n1 := Aside0.mk (below_step (bw HB.out) hbc); clear hbc HR HB; have HR := n0; have HB := n1; clear n0 n1)
    have HCC := Aside0.mk (Kd.R_reads' HR.out).2.1
    obtain ⟨hjk, hkl⟩ := HJK.out
    subst hjk
    have hiL : i < l0.length := by have := HI.out; omega
    have HW := Aside0.mk (show wrap64 ((i : Int) + 1) = ((i + 1 : Nat) : Int) from by have := HL.out; unfold wrap64; omega)
    have HLEN := Aside0.mk (show (out.take j ++ (i : Int) :: out.drop j).length = i + 1 from by have := HO.out; simp only [List.length_append, List.length_take, List.length_cons, List.length_drop]; omega)
    have HAP := Aside0.mk (show (out.take j ++ [(i : Int)]).length + (out.length - j) ≤ 1000001 from by have := HO.out; have := HL.out; simp only [List.length_append, List.length_take, List.length_cons, List.length_nil]; omega)
    have hcL := HCC.out
    have hoM : out.length ≤ 1000000 := by have := HO.out; have := HL.out; omega
    have AOWN := Aside0.mk (show spec_l1Own.f (out.take j) = some (out.take j) from by
     unfold spec_l1Own.f
     rw [Option.bind_some, List.length_nil, List.length_take, if_pos (by omega)]
     rfl)
    have s1 := eq_true (show 0 ≤ (j : Int) by omega)
    have s2 := eq_true (show (j : Int) ≤ (out.length : Int) by omega)
    have s3 := eq_true (show (j : Int) ≤ (co : Int) by omega)
    have s4 := eq_true (show j ≤ co by omega)
    have s5 := eq_true (show j ≤ out.length by omega)
    have s6 := eq_true (show out.length ≤ co by omega)
    have s7 := eq_true (show (out.length : Int) ≤ (co : Int) by omega)
    have n0 := Aside0.mk (Kd.R_drew HR.out)
    have n1 := Aside0.mk (below_drew1 HB.out)
    replace HR := n0
    replace HB := n1
    clear n0 n1 HK HJ HRest
    refine start_ (n := 12) (S := fun _ => True) (ds := []) q24_0 (by kernel_rfl) rfl rfl trivial (fun hHeld => ?_)
    generalize w'.drew = w25 at HR HB hHeld ⊢
    refine puq_ (i := 0) (N := some 32) (v := ?_) (a' := ?_) rfl rfl (by kernel_rfl) (fun _ _ _ h => h) (Or.inl ⟨by rfl, ?_⟩) ?_ ?_
    rotate_left
    ·intro w'
     go_simp
     with_reducible rfl
    rotate_left
    ·simp only [aq_]
     rfl
    refine puq_ (i := 1) (N := some 33) (v := ?_) (a' := ?_) rfl rfl (by kernel_rfl) (fun _ _ _ h => h) (Or.inl ⟨by rfl, ?_⟩) ?_ ?_
    rotate_left
    ·intro w'
     go_simp
     with_reducible rfl
    rotate_left
    ·simp only [aq_]
     rfl
    refine puq_ (i := 2) (N := some 34) (v := ?_) (a' := ?_) rfl rfl (by kernel_rfl) (fun _ _ _ h => h) (Or.inl ⟨by rfl, ?_⟩) ?_ ?_
    rotate_left
    ·intro w'
     go_simp
     with_reducible rfl
    rotate_left
    ·simp only [aq_]
     rfl
    refine puq_ (i := 4) (N := some 36) (v := ?_) (a' := ?_) rfl rfl (by kernel_rfl) (fun _ _ _ h => h) (Or.inl ⟨by rfl, ?_⟩) ?_ ?_
    rotate_left
    ·intro w'
     go_simp
     with_reducible rfl
    rotate_left
    ·simp only [aq_]
     rfl
    refine puq_ (i := 7) (N := some 39) (v := ?_) (a' := ?_) rfl rfl (by kernel_rfl) (fun _ _ _ h => h) (Or.inl ⟨by rfl, ?_⟩) ?_ ?_
    rotate_left
    ·intro w'
     go_simp
     with_reducible rfl
    rotate_left
    ·simp only [aq_]
     rfl
    refine puq_ (i := 8) (N := some 40) (v := ?_) (a' := ?_) rfl rfl (by kernel_rfl) (fun _ _ _ h => h) (Or.inl ⟨by rfl, ?_⟩) ?_ ?_
    rotate_left
    ·intro w'
     go_simp
     with_reducible rfl
    rotate_left
    ·simp only [aq_]
     rfl
    refine puq_ (i := 9) (N := some 41) (v := ?_) (a' := ?_) rfl rfl (by kernel_rfl) (fun _ _ _ h => h) (Or.inl ⟨by rfl, ?_⟩) ?_ ?_
    rotate_left
    ·intro w'
     go_simp
     with_reducible rfl
    rotate_left
    ·simp only [aq_]
     rfl
    refine join_ (σ := Value × Value) 3 q24_1 (fun s_ => [(35, s_.1), (37, s_.2)]) (fun s_ w' => Kd.R (Kd.int .i64) 3 w' w.heap.size (fun _ => True) s_.1 (out.take j) ∧ Kd.R (Kd.int .i64) 3 w' w.heap.size (fun _ => True) s_.2 [(i : Int)] ∧ Kd.R (Kd.int .i64) 3 w' w.heap.size (fun k_ => some k_ ≠ s_.1.ownBlock) (.slice (some ad) out.length co) out ∧ Below w.heap.size w w') ?_ ?_
    rotate_left
    ·intro hCont
     refine two_ (i := 3) (j := 5) (Ni := some 35) (Nj := some 37) q24_2 q24_3 rfl rfl rfl rfl (by kernel_rfl) (by decide) (by decide) (fun K hK => ?_) (fun K hK => ?_)
     ·skip
      refine goes_ Try.func15 (by kernel_rfl) rfl #[.slice (some ad) j co] (by rfl) rfl rfl (by (try simp only [mA_]); first | done | rfl | (simp only [List.length_drop, List.length_take]; rfl)) ?_
      refine calls_args (a' := #[.slice (some ad) (out.take j).length co]) (by rw [List.length_take, Nat.min_eq_left hkl]) ?_
      with_reducible refine (spec_l1Own.calls (some ad) co (out.take j) (out.take j) _ ?side1 ?side2 AOWN.out).mono ?_
      case side1 => exact (Kd.R_reads' (Kd.R_take (bR HR.out) hkl)).2.2
      case side2 => rw [List.length_take]; omega
      rintro e w35 ⟨v35, rfl, ho0, hb⟩
      refine ⟨_, rfl, ?_⟩
      have n0 := Aside0.mk (Kd.R_elder' (bR HR.out) (Kd.R_base ho0) hb)
      have n1 := Aside0.mk (Kd.R_lower ho0 (below_size (bw HB.out)))
      have n2 := Aside0.mk (below_step (bw HB.out) hb)
      replace HR := n0
      have HO35 := n1
      replace HB := n2
      clear n0 n1 n2 hb ho0
      refine hK.out _ _ trivial (fun hHeld => ?_)
      clear hK K
      refine norm_ (a' := ?_) ?_ ?_
      rotate_left
      ·show Act.put _ (some 35) _ = _
       simp only [aq_]
       rfl
      refine one_ (i := 5) (N := some 37) q24_1 rfl rfl (by kernel_rfl) (by decide) (fun K hK => ?_)
      refine Kd.R_lit_step (Kd.int .i64) _ 3 ?hg (N := 37) ?hd (xs := ([(i : Int)] : List Int)) (inner := [.int .i64 (i : Int)]) (ok := fun _ => True) (okp := fun _ => True) ?hr ?hp (fun _ hk => hk) trivial (Below.refl _ _) (Nat.le_refl _) (by simp) ?_
      case hd => rfl
      case hg => rfl
      case hr => first | (go_simp; done) | (go_simp; rfl)
      case hp => exact (Reps.one (show Kd.M (Kd.int .i64) _ _ _ (i : Int) [.int .i64 (i : Int)] from rfl) (Reps.none _ _))
      intro v37 w37 ho4 hb2 hg_ hnew_
      clear hg_ hnew_
      have m0 := Aside0.mk (Kd.R_below (bR HR.out) hb2)
      have m1 := Aside0.mk (Kd.R_lower ho4 (below_size (bw HB.out)))
      have m2 := Aside0.mk (below_step (bw HB.out) hb2)
      have m3 := Aside0.mk (Kd.R_below (bR HO35.out) hb2)
      replace HR := m0
      have HO37 := m1
      replace HB := m2
      replace HO35 := m3
      clear m0 m1 m2 m3 hb2 ho4
      refine hK.out _ _ trivial (fun hHeld => ?_)
      clear hK K
      refine norm_ (a' := ?_) ?_ ?_
      rotate_left
      ·show Act.put _ (some 37) _ = _
       simp only [aq_]
       rfl
      exact norm_ (by simp only [putAll, Act.put, List.setIfInBounds_toArray, List.set_cons_zero, List.set_cons_succ]) (hCont (v35, v37) _ ⟨bR HO35.out, bR HO37.out, (by first | exact Kd.R_mono HR.out (fun _ hk => hk.2) | exact Kd.R_mono (bR HR.out) (fun _ hk => hk.2)), bw HB.out⟩)
     ·skip
      refine Kd.R_lit_step (Kd.int .i64) _ 3 ?hg (N := 37) ?hd (xs := ([(i : Int)] : List Int)) (inner := [.int .i64 (i : Int)]) (ok := fun _ => True) (okp := fun _ => True) ?hr ?hp (fun _ hk => hk) trivial (Below.refl _ _) (Nat.le_refl _) (by simp) ?_
      case hd => rfl
      case hg => rfl
      case hr => first | (go_simp; done) | (go_simp; rfl)
      case hp => exact (Reps.one (show Kd.M (Kd.int .i64) _ _ _ (i : Int) [.int .i64 (i : Int)] from rfl) (Reps.none _ _))
      intro v37 w37 ho4 hb2 hg_ hnew_
      clear hg_ hnew_
      have m0 := Aside0.mk (Kd.R_below (bR HR.out) hb2)
      have m1 := Aside0.mk (Kd.R_lower ho4 (below_size (bw HB.out)))
      have m2 := Aside0.mk (below_step (bw HB.out) hb2)
      replace HR := m0
      have HO37 := m1
      replace HB := m2
      clear m0 m1 m2 hb2 ho4
      refine hK.out _ _ trivial (fun hHeld => ?_)
      clear hK K
      refine norm_ (a' := ?_) ?_ ?_
      rotate_left
      ·show Act.put _ (some 37) _ = _
       simp only [aq_]
       rfl
      refine one_ (i := 3) (N := some 35) q24_1 rfl rfl (by kernel_rfl) (by decide) (fun K hK => ?_)
      refine goes_ Try.func15 (by kernel_rfl) rfl #[.slice (some ad) j co] (by rfl) rfl rfl (by (try simp only [mA_]); first | done | rfl | (simp only [List.length_drop, List.length_take]; rfl)) ?_
      refine calls_args (a' := #[.slice (some ad) (out.take j).length co]) (by rw [List.length_take, Nat.min_eq_left hkl]) ?_
      with_reducible refine (spec_l1Own.calls (some ad) co (out.take j) (out.take j) _ ?side1 ?side2 AOWN.out).mono ?_
      case side1 => exact (Kd.R_reads' (Kd.R_take (bR HR.out) hkl)).2.2
      case side2 => rw [List.length_take]; omega
      rintro e w35 ⟨v35, rfl, ho0, hb⟩
      refine ⟨_, rfl, ?_⟩
      have n0 := Aside0.mk (Kd.R_elder' (bR HR.out) (Kd.R_base ho0) hb)
      have n1 := Aside0.mk (Kd.R_lower ho0 (below_size (bw HB.out)))
      have n2 := Aside0.mk (below_step (bw HB.out) hb)
      have n3 := Aside0.mk (Kd.R_below (bR HO37.out) hb)
      replace HR := n0
      have HO35 := n1
      replace HB := n2
      replace HO37 := n3
      clear n0 n1 n2 n3 hb ho0
      refine hK.out _ _ trivial (fun hHeld => ?_)
      clear hK K
      refine norm_ (a' := ?_) ?_ ?_
      rotate_left
      ·show Act.put _ (some 35) _ = _
       simp only [aq_]
       rfl
      exact norm_ (by simp only [putAll, Act.put, List.setIfInBounds_toArray, List.set_cons_zero, List.set_cons_succ]) (hCont (v35, v37) _ ⟨bR HO35.out, bR HO37.out, (by first | exact Kd.R_mono HR.out (fun _ hk => hk.2) | exact Kd.R_mono (bR HR.out) (fun _ hk => hk.2)), bw HB.out⟩)
    clear HR HB
    rintro ⟨v35, v37⟩ w38 ⟨h35, h37, hR8, hB8⟩
    obtain ⟨A37, c37, e37⟩ := Kd.R_slice h37
    subst e37
    refine norm_ (a' := ?_) (by simp only [putAll, Act.put, List.setIfInBounds_toArray, List.set_cons_zero, List.set_cons_succ]; rfl) ?_
    refine one_ (i := 6) (N := some 38) q24_4 rfl rfl (by kernel_rfl) (by decide) (fun K hK => ?_)
    refine Kd.R_append_rows_step (Kd.int .i64) (w0 := w) w.heap.size (by rfl) (.tmp 35) (.tmp 37) 24 3 (.int .i64 0) 8 rfl Try.underlying24 info3 rfl (by decide) (by omega) v35 (out.take j) [(i : Int)] _ _ _ (fun _ => True) (fun _ => False) rfl rfl ?aO ?aR (fun _ _ h => h) (fun _ h => h.elim) ?aF ?aB ?aS ?aL ?_
    case aO => exact h35
    case aR => exact (Kd.R_reads' h37).2.2
    case aF => exact (fun _ _ => trivial)
    case aB => exact hB8
    case aS => exact below_size hB8
    case aL => simp only [List.length_take, List.length_cons, List.length_nil]; omega
    intro v38 w39 ho38 hb38 hg38 hat38
    have hR9 := Kd.R_after (ok := fun _ => True) (Kd.R_mono hR8 (fun _ hk => ⟨trivial, hk⟩)) hg38 hat38
    clear hg38 hat38 h35 h37 hR8 hB8
    refine hK.out _ _ trivial (fun hHeld => ?_)
    clear hK K
    refine norm_ (a' := ?_) ?_ ?_
    rotate_left
    ·show Act.put _ (some 38) _ = _
     simp only [aq_]
     rfl
    refine one_ (i := 10) (N := some 42) q24_5 rfl rfl (by kernel_rfl) (by decide) (fun K hK => ?_)
    refine Kd.R_append_rows_step (Kd.int .i64) (w0 := w) w.heap.size (by rfl) (.tmp 38) (.tmp 41) 24 3 (.int .i64 0) 8 rfl Try.underlying24 info3 rfl (by decide) (by omega) v38 (out.take j ++ [(i : Int)]) (out.drop j) _ _ _ (fun _ => True) (fun _ => False) rfl rfl ?aO ?aR (fun _ _ h => h) (fun _ h => h.elim) ?aF ?aB ?aS ?aL ?_
    case aO => exact ho38
    case aR =>
     have hcd := Kd.C_drop (Kd.R_reads' hR9).2.2 hkl hcL
     rw [List.length_drop] at hcd
     simp only [show (Kd.int .i64).sz = 1 from rfl, Nat.mul_one] at hcd
     exact hcd
    case aF => exact (fun _ _ => trivial)
    case aB => exact hb38
    case aS => exact below_size hb38
    case aL => have := HAP.out; omega
    intro v42 w43 ho42 hb42 hg42 hat42
    clear hg42 hat42 ho38 hb38 hR9
    refine hK.out _ _ trivial (fun hHeld => ?_)
    clear hK K
    refine norm_ (a' := ?_) ?_ ?_
    rotate_left
    ·show Act.put _ (some 42) _ = _
     simp only [aq_]
     rfl
    refine puq_ (i := 11) (N := some 5) (v := ?_) (a' := ?_) rfl rfl (by kernel_rfl) (fun _ _ _ h => h) (Or.inl ⟨by rfl, ?_⟩) ?_ ?_
    rotate_left
    ·intro w'
     go_simp
     with_reducible rfl
    rotate_left
    ·simp only [aq_]
     rfl
    refine done_ (by kernel_rfl) ?_
    have HR := Aside0.mk ho42
    have HB := Aside0.mk hb42
    clear ho42 hb42
    go_wp2
    all_goals (go_roundg kq; (case measure => omega); (case rel => exact ⟨i + 1, out.take j ++ (i : Int) :: out.drop j, (by first | rfl | rw [HW.out]), ⟨by have := HI.out; omega⟩, HLEN, HS, ⟨by have := HR.out; simpa using this⟩, HB⟩))

/-! ### spec_l3Total: function 25 -/
def spec_l3Total.l0 : Nat → List (S42) → List Int → Int → Int → Option (Int)
 | 0, _, _, _, _ => none
 | k + 1, x0, x1, x5, x6 => if x6 < (x1.length : Int) then (if 0 ≤ x6 then (if 0 ≤ (rd x1 x6) then (if (rd x1 x6) < (x0.length : Int) then (spec_l3Total.l0 k x0 x1 (wrap64 (x5 + ((rd_T42 x0 (rd x1 x6)).f0))) (wrap64 (x6 + 1))) else (none)) else (none)) else (none)) else (some x5)
def spec_l3Total.f (k : Nat) (l0 : List (S42)) (l1 : List Int) : Option (Int) := spec_l3Total.l0 k l0 l1 0 0
theorem spec_l3Total.mono_l : ∀ k, (∀ y0 y1 y2 y3, LeO (spec_l3Total.l0 k y0 y1 y2 y3) (spec_l3Total.l0 (k + 1) y0 y1 y2 y3))
 | 0 => fun _ _ _ _ r h => by simp [spec_l3Total.l0] at h
 | k + 1 => by
  have ih0 := spec_l3Total.mono_l k
  ·intro y0 y1 y2 y3
   unfold spec_l3Total.l0
   repeat' first
   | (with_reducible exact ih0 _ _ _ _)
   | (with_reducible exact LeO.refl _)
   | (with_reducible exact LeO.none _)
   | (with_reducible refine LeO.ite ?_ ?_)
   | (with_reducible refine LeO.bind ?_ (fun _ => ?_))
   | exact ih0 _ _ _ _
   | exact LeO.none _
   | refine LeO.ite ?_ ?_
   | refine LeO.bind ?_ (fun _ => ?_)
theorem spec_l3Total.mono : ∀ a0 a1 k, LeO (spec_l3Total.f k a0 a1) (spec_l3Total.f (k + 1) a0 a1) := by
 intro a0 a1 k
 have ih0 := spec_l3Total.mono_l k
 unfold spec_l3Total.f
 repeat' first
   | (with_reducible exact ih0 _ _ _ _)
   | (with_reducible exact LeO.refl _)
   | (with_reducible exact LeO.none _)
   | (with_reducible refine LeO.ite ?_ ?_)
   | (with_reducible refine LeO.bind ?_ (fun _ => ?_))
   | exact ih0 _ _ _ _
   | exact LeO.none _
   | refine LeO.ite ?_ ?_
   | refine LeO.bind ?_ (fun _ => ?_)
set_option maxHeartbeats 8000000 in
set_option maxRecDepth 100000 in
theorem spec_l3Total.calls (k : Nat) (A0 : Option Addr) (c0 : Nat) (l0 : List (S42)) (A1 : Option Addr) (c1 : Nat) (l1 : List Int) (r : Int) (w : World) (hr0 : Kd.C k42 w A0 l0.length l0) (hc0 : l0.length ≤ c0) (hr1 : Kd.C (Kd.int .i64) w A1 l1.length l1) (hc1 : l1.length ≤ c1) (h : spec_l3Total.f k l0 l1 = some r) :
  Calls Try.prog 25 #[.slice A0 l0.length c0, .slice A1 l1.length c1] w fun e w' => e = .returned (.int .i64 r) ∧ Drawn0 w w' := by
 have HR0 := Aside0.mk hr0
 have HC0 := Aside0.mk hc0
 clear hr0 hc0
 have HR1 := Aside0.mk hr1
 have HC1 := Aside0.mk hc1
 clear hr1 hc1
 have H : (spec_l3Total.l0 k l0 l1 0 0) = some r := h
 clear h
 have H' := Aside0.mk H
 clear H
 go_enter Try.func25, Try.ntmps25
 go_wp2
 go_loopg [5, 6] k (fun kq v5 v6 w' => ∃ (x5_1 : Int) (x6_1 : Int), v5 = .int .i64 x5_1 ∧ v6 = .int .i64 x6_1 ∧ Aside0 (spec_l3Total.l0 kq l0 l1 x5_1 x6_1 = some r) ∧ Aside0 (kq ≤ k) ∧ Drawn0 w w')
 case atStart => exact ⟨(0), (0), (by first | rfl | (simp; done) | (simp [*]; done)), (by first | rfl | (simp; done) | (simp [*]; done)), H', ⟨Nat.le_refl _⟩, by repeat (first | exact Drawn0.refl _ | apply Drawn0.step)⟩
 case round =>
  clear H'
  try clear c1
  try clear c2
  try clear p2
  obtain ⟨x5_1, x6_1, rfl, rfl, HA, HK1, ⟨m1, rfl⟩⟩ := hrel
  cases gk with
  | zero => exact absurd HA.out (by simp [spec_l3Total.l0])
  | succ k1 =>
   have H := HA.out
   clear HA
   simp only [spec_l3Total.l0] at H
   by_cases c3 : x6_1 < (l1.length : Int)
   rotate_left
   ·rw [if_neg c3] at H
    have c3b0 : decide (x6_1 < (l1.length : Int)) = false := decide_eq_false c3
    clear c3
    obtain rfl := Option.some.inj H
    go_wp2
    go_ret
    exact ⟨by first | rfl | (simp; done) | (simp [*]; done), by repeat (first | exact Drawn0.refl _ | apply Drawn0.step)⟩
   rw [if_pos c3] at H
   have c3b0 : decide (x6_1 < (l1.length : Int)) = true := decide_eq_true c3
   clear c3
   by_cases c4 : 0 ≤ x6_1
   rotate_left
   ·rw [if_neg c4] at H
    exact absurd H (by simp)
   rw [if_pos c4] at H
   have c4b0 : decide (0 ≤ x6_1) = true := decide_eq_true c4
   clear c4
   by_cases c5 : 0 ≤ (rd l1 x6_1)
   rotate_left
   ·rw [if_neg c5] at H
    exact absurd H (by simp)
   rw [if_pos c5] at H
   have c5b0 : decide (0 ≤ (rd l1 x6_1)) = true := decide_eq_true c5
   clear c5
   by_cases c6 : (rd l1 x6_1) < (l0.length : Int)
   rotate_left
   ·rw [if_neg c6] at H
    exact absurd H (by simp)
   rw [if_pos c6] at H
   have c6b0 : decide ((rd l1 x6_1) < (l0.length : Int)) = true := decide_eq_true c6
   clear c6
   have H' := Aside0.mk H
   clear H
   have p121 : 0 ≤ (x6_1 : Int) := of_decide_eq_true (by first | (with_reducible assumption) | assumption)
   have q121 : x6_1 < (l1.length : Int) := of_decide_eq_true (by first | (with_reducible assumption) | assumption)
   obtain ⟨ad121, e121, hx121_0⟩ := Kd.at_int HR1.out x6_1 p121 q121
   cases e121
   replace p121 := eq_true p121
   replace q121 := eq_true q121
   have p122 : 0 ≤ ((rd l1 x6_1) : Int) := of_decide_eq_true (by first | (with_reducible assumption) | assumption)
   have q122 : (rd l1 x6_1) < (l0.length : Int) := of_decide_eq_true (by first | (with_reducible assumption) | assumption)
   obtain ⟨ad122, e122, hx122_0, hx122_1, hx122_2, hx122_3⟩ := at_T42 HR0.out (rd l1 x6_1) p122 q122
   cases e122
   replace p122 := eq_true p122
   replace q122 := eq_true q122
   go_wp2
   go_roundg k1
   case measure => have := HK1.out; omega
   case rel => exact ⟨(wrap64 (x5_1 + ((rd_T42 l0 (rd l1 x6_1)).f0))), (wrap64 (x6_1 + 1)), (by first | rfl | (simp; done) | (simp [*]; done)), (by first | rfl | (simp; done) | (simp [*]; done)), H', ⟨by have := HK1.out; omega⟩, by repeat (first | exact Drawn0.refl _ | apply Drawn0.step)⟩

/-! ### spec_l3Longest: function 26 -/
def spec_l3Longest.l0 : Nat → List (S42) → List Int → Int → Int → Option (Int)
 | 0, _, _, _, _ => none
 | k + 1, x0, x1, x5, x6 => if x6 < (x1.length : Int) then (if 0 ≤ x6 then (if 0 ≤ (rd x1 x6) then (if (rd x1 x6) < (x0.length : Int) then (if 0 ≤ x5 then (if x5 < (x1.length : Int) then (if 0 ≤ (rd x1 x5) then (if (rd x1 x5) < (x0.length : Int) then (if ((rd_T42 x0 (rd x1 x6)).f0) > ((rd_T42 x0 (rd x1 x5)).f0) then (spec_l3Longest.l0 k x0 x1 x6 (wrap64 (x6 + 1))) else (spec_l3Longest.l0 k x0 x1 x5 (wrap64 (x6 + 1)))) else (none)) else (none)) else (none)) else (none)) else (none)) else (none)) else (none)) else (some x5)
def spec_l3Longest.f (k : Nat) (l0 : List (S42)) (l1 : List Int) : Option (Int) := spec_l3Longest.l0 k l0 l1 0 1
theorem spec_l3Longest.mono_l : ∀ k, (∀ y0 y1 y2 y3, LeO (spec_l3Longest.l0 k y0 y1 y2 y3) (spec_l3Longest.l0 (k + 1) y0 y1 y2 y3))
 | 0 => fun _ _ _ _ r h => by simp [spec_l3Longest.l0] at h
 | k + 1 => by
  have ih0 := spec_l3Longest.mono_l k
  ·intro y0 y1 y2 y3
   unfold spec_l3Longest.l0
   repeat' first
   | (with_reducible exact ih0 _ _ _ _)
   | (with_reducible exact LeO.refl _)
   | (with_reducible exact LeO.none _)
   | (with_reducible refine LeO.ite ?_ ?_)
   | (with_reducible refine LeO.bind ?_ (fun _ => ?_))
   | exact ih0 _ _ _ _
   | exact LeO.none _
   | refine LeO.ite ?_ ?_
   | refine LeO.bind ?_ (fun _ => ?_)
theorem spec_l3Longest.mono : ∀ a0 a1 k, LeO (spec_l3Longest.f k a0 a1) (spec_l3Longest.f (k + 1) a0 a1) := by
 intro a0 a1 k
 have ih0 := spec_l3Longest.mono_l k
 unfold spec_l3Longest.f
 repeat' first
   | (with_reducible exact ih0 _ _ _ _)
   | (with_reducible exact LeO.refl _)
   | (with_reducible exact LeO.none _)
   | (with_reducible refine LeO.ite ?_ ?_)
   | (with_reducible refine LeO.bind ?_ (fun _ => ?_))
   | exact ih0 _ _ _ _
   | exact LeO.none _
   | refine LeO.ite ?_ ?_
   | refine LeO.bind ?_ (fun _ => ?_)
set_option maxHeartbeats 8000000 in
set_option maxRecDepth 100000 in
theorem spec_l3Longest.calls (k : Nat) (A0 : Option Addr) (c0 : Nat) (l0 : List (S42)) (A1 : Option Addr) (c1 : Nat) (l1 : List Int) (r : Int) (w : World) (hr0 : Kd.C k42 w A0 l0.length l0) (hc0 : l0.length ≤ c0) (hr1 : Kd.C (Kd.int .i64) w A1 l1.length l1) (hc1 : l1.length ≤ c1) (h : spec_l3Longest.f k l0 l1 = some r) :
  Calls Try.prog 26 #[.slice A0 l0.length c0, .slice A1 l1.length c1] w fun e w' => e = .returned (.int .i64 r) ∧ Drawn0 w w' := by
 have HR0 := Aside0.mk hr0
 have HC0 := Aside0.mk hc0
 clear hr0 hc0
 have HR1 := Aside0.mk hr1
 have HC1 := Aside0.mk hc1
 clear hr1 hc1
 have H : (spec_l3Longest.l0 k l0 l1 0 1) = some r := h
 clear h
 have H' := Aside0.mk H
 clear H
 go_enter Try.func26, Try.ntmps26
 go_wp2
 repeat (go_quiet (fail); try go_wp2)
 go_loopg [5, 6] k (fun kq v5 v6 w' => ∃ (x5_1 : Int) (x6_1 : Int), v5 = .int .i64 x5_1 ∧ v6 = .int .i64 x6_1 ∧ Aside0 (spec_l3Longest.l0 kq l0 l1 x5_1 x6_1 = some r) ∧ Aside0 (kq ≤ k) ∧ Drawn0 w w')
 case atStart => exact ⟨(0), (1), (by first | rfl | (simp; done) | (simp [*]; done)), (by first | rfl | (simp; done) | (simp [*]; done)), H', ⟨Nat.le_refl _⟩, by repeat (first | exact Drawn0.refl _ | apply Drawn0.step)⟩
 case round =>
  clear H'
  try clear c1
  try clear c2
  try clear p2
  obtain ⟨x5_1, x6_1, rfl, rfl, HA, HK1, ⟨m1, rfl⟩⟩ := hrel
  cases gk with
  | zero => exact absurd HA.out (by simp [spec_l3Longest.l0])
  | succ k1 =>
   have H := HA.out
   clear HA
   simp only [spec_l3Longest.l0] at H
   by_cases c3 : x6_1 < (l1.length : Int)
   rotate_left
   ·rw [if_neg c3] at H
    have c3b0 : decide (x6_1 < (l1.length : Int)) = false := decide_eq_false c3
    clear c3
    obtain rfl := Option.some.inj H
    go_wp2
    repeat (go_quiet (fail); try go_wp2)
    go_ret
    exact ⟨by first | rfl | (simp; done) | (simp [*]; done), by repeat (first | exact Drawn0.refl _ | apply Drawn0.step)⟩
   rw [if_pos c3] at H
   have c3b0 : decide (x6_1 < (l1.length : Int)) = true := decide_eq_true c3
   clear c3
   by_cases c4 : 0 ≤ x6_1
   rotate_left
   ·rw [if_neg c4] at H
    exact absurd H (by simp)
   rw [if_pos c4] at H
   have c4b0 : decide (0 ≤ x6_1) = true := decide_eq_true c4
   clear c4
   by_cases c5 : 0 ≤ (rd l1 x6_1)
   rotate_left
   ·rw [if_neg c5] at H
    exact absurd H (by simp)
   rw [if_pos c5] at H
   have c5b0 : decide (0 ≤ (rd l1 x6_1)) = true := decide_eq_true c5
   clear c5
   by_cases c6 : (rd l1 x6_1) < (l0.length : Int)
   rotate_left
   ·rw [if_neg c6] at H
    exact absurd H (by simp)
   rw [if_pos c6] at H
   have c6b0 : decide ((rd l1 x6_1) < (l0.length : Int)) = true := decide_eq_true c6
   clear c6
   by_cases c7 : 0 ≤ x5_1
   rotate_left
   ·rw [if_neg c7] at H
    exact absurd H (by simp)
   rw [if_pos c7] at H
   have c7b0 : decide (0 ≤ x5_1) = true := decide_eq_true c7
   clear c7
   by_cases c8 : x5_1 < (l1.length : Int)
   rotate_left
   ·rw [if_neg c8] at H
    exact absurd H (by simp)
   rw [if_pos c8] at H
   have c8b0 : decide (x5_1 < (l1.length : Int)) = true := decide_eq_true c8
   clear c8
   by_cases c9 : 0 ≤ (rd l1 x5_1)
   rotate_left
   ·rw [if_neg c9] at H
    exact absurd H (by simp)
   rw [if_pos c9] at H
   have c9b0 : decide (0 ≤ (rd l1 x5_1)) = true := decide_eq_true c9
   clear c9
   by_cases c10 : (rd l1 x5_1) < (l0.length : Int)
   rotate_left
   ·rw [if_neg c10] at H
    exact absurd H (by simp)
   rw [if_pos c10] at H
   have c10b0 : decide ((rd l1 x5_1) < (l0.length : Int)) = true := decide_eq_true c10
   clear c10
   by_cases c11 : ((rd_T42 l0 (rd l1 x6_1)).f0) > ((rd_T42 l0 (rd l1 x5_1)).f0)
   ·rw [if_pos c11] at H
    have c11b0 : decide (((rd_T42 l0 (rd l1 x5_1)).f0) < ((rd_T42 l0 (rd l1 x6_1)).f0)) = true := decide_eq_true c11
    clear c11
    have H' := Aside0.mk H
    clear H
    have p123 : 0 ≤ (x6_1 : Int) := of_decide_eq_true (by first | (with_reducible assumption) | assumption)
    have q123 : x6_1 < (l1.length : Int) := of_decide_eq_true (by first | (with_reducible assumption) | assumption)
    obtain ⟨ad123, e123, hx123_0⟩ := Kd.at_int HR1.out x6_1 p123 q123
    cases e123
    replace p123 := eq_true p123
    replace q123 := eq_true q123
    have p124 : 0 ≤ ((rd l1 x6_1) : Int) := of_decide_eq_true (by first | (with_reducible assumption) | assumption)
    have q124 : (rd l1 x6_1) < (l0.length : Int) := of_decide_eq_true (by first | (with_reducible assumption) | assumption)
    obtain ⟨ad124, e124, hx124_0, hx124_1, hx124_2, hx124_3⟩ := at_T42 HR0.out (rd l1 x6_1) p124 q124
    cases e124
    replace p124 := eq_true p124
    replace q124 := eq_true q124
    have p125 : 0 ≤ (x5_1 : Int) := of_decide_eq_true (by first | (with_reducible assumption) | assumption)
    have q125 : x5_1 < (l1.length : Int) := of_decide_eq_true (by first | (with_reducible assumption) | assumption)
    obtain ⟨ad125, e125, hx125_0⟩ := Kd.at_int HR1.out x5_1 p125 q125
    obtain rfl : ad123 = ad125 := (by injection e125)
    replace p125 := eq_true p125
    replace q125 := eq_true q125
    have p126 : 0 ≤ ((rd l1 x5_1) : Int) := of_decide_eq_true (by first | (with_reducible assumption) | assumption)
    have q126 : (rd l1 x5_1) < (l0.length : Int) := of_decide_eq_true (by first | (with_reducible assumption) | assumption)
    obtain ⟨ad126, e126, hx126_0, hx126_1, hx126_2, hx126_3⟩ := at_T42 HR0.out (rd l1 x5_1) p126 q126
    obtain rfl : ad124 = ad126 := (by injection e126)
    replace p126 := eq_true p126
    replace q126 := eq_true q126
    go_wp2
    repeat (go_quiet (fail); try go_wp2)
    go_roundg k1
    case measure => have := HK1.out; omega
    case rel => exact ⟨(x6_1), (wrap64 (x6_1 + 1)), (by first | rfl | (simp; done) | (simp [*]; done)), (by first | rfl | (simp; done) | (simp [*]; done)), H', ⟨by have := HK1.out; omega⟩, by repeat (first | exact Drawn0.refl _ | apply Drawn0.step)⟩
   rw [if_neg c11] at H
   have c11b0 : decide (((rd_T42 l0 (rd l1 x5_1)).f0) < ((rd_T42 l0 (rd l1 x6_1)).f0)) = false := decide_eq_false c11
   clear c11
   have H' := Aside0.mk H
   clear H
   have p123 : 0 ≤ (x6_1 : Int) := of_decide_eq_true (by first | (with_reducible assumption) | assumption)
   have q123 : x6_1 < (l1.length : Int) := of_decide_eq_true (by first | (with_reducible assumption) | assumption)
   obtain ⟨ad123, e123, hx123_0⟩ := Kd.at_int HR1.out x6_1 p123 q123
   cases e123
   replace p123 := eq_true p123
   replace q123 := eq_true q123
   have p124 : 0 ≤ ((rd l1 x6_1) : Int) := of_decide_eq_true (by first | (with_reducible assumption) | assumption)
   have q124 : (rd l1 x6_1) < (l0.length : Int) := of_decide_eq_true (by first | (with_reducible assumption) | assumption)
   obtain ⟨ad124, e124, hx124_0, hx124_1, hx124_2, hx124_3⟩ := at_T42 HR0.out (rd l1 x6_1) p124 q124
   cases e124
   replace p124 := eq_true p124
   replace q124 := eq_true q124
   have p125 : 0 ≤ (x5_1 : Int) := of_decide_eq_true (by first | (with_reducible assumption) | assumption)
   have q125 : x5_1 < (l1.length : Int) := of_decide_eq_true (by first | (with_reducible assumption) | assumption)
   obtain ⟨ad125, e125, hx125_0⟩ := Kd.at_int HR1.out x5_1 p125 q125
   obtain rfl : ad123 = ad125 := (by injection e125)
   replace p125 := eq_true p125
   replace q125 := eq_true q125
   have p126 : 0 ≤ ((rd l1 x5_1) : Int) := of_decide_eq_true (by first | (with_reducible assumption) | assumption)
   have q126 : (rd l1 x5_1) < (l0.length : Int) := of_decide_eq_true (by first | (with_reducible assumption) | assumption)
   obtain ⟨ad126, e126, hx126_0, hx126_1, hx126_2, hx126_3⟩ := at_T42 HR0.out (rd l1 x5_1) p126 q126
   obtain rfl : ad124 = ad126 := (by injection e126)
   replace p126 := eq_true p126
   replace q126 := eq_true q126
   go_wp2
   repeat (go_quiet (fail); try go_wp2)
   go_roundg k1
   case measure => have := HK1.out; omega
   case rel => exact ⟨(x5_1), (wrap64 (x6_1 + 1)), (by first | rfl | (simp; done) | (simp [*]; done)), (by first | rfl | (simp; done) | (simp [*]; done)), H', ⟨by have := HK1.out; omega⟩, by repeat (first | exact Drawn0.refl _ | apply Drawn0.step)⟩

/-! ### spec_l3Without: function 27 -/
abbrev q27_0 : Array Bool := ⟨rl_ [10] false⟩
abbrev q27_8 : Array Bool := ⟨rl_ [8, 2] true⟩
abbrev q27_9 : Array Bool := ⟨rl_ [9, 1] true⟩
def spec_l3Without.f (l0 : List Int) (a1 : Int) : Option (List Int) := if 0 ≤ a1 then (if a1 ≤ (l0.length : Int) then ((spec_l1Own.f (l0.take (a1 : Int).toNat)).bind fun t128 => (if 0 ≤ (wrap64 (a1 + 1)) then (if (wrap64 (a1 + 1)) ≤ (l0.length : Int) then (if t128.length + (l0.drop ((wrap64 (a1 + 1)) : Int).toNat).length < 17592186044416 then (some (t128 ++ (l0.drop ((wrap64 (a1 + 1)) : Int).toNat))) else (none)) else (none)) else (none))) else (none)) else (none)
def spec_l3Without.T1 : Bool × List (List Nat × List Nat) := (true, [([], []), ([], []), ([0, 1], [0, 1]), ([2], [2]), ([], []), ([], []), ([5], [5]), ([4, 6], [4, 6]), ([3, 7, 3], [3, 7]), ([8, 8, 0, 1, 2, 3, 4, 5, 6, 7, 8], [8])])
def spec_l3Without.B1 : List Nat := [0, 0, 3, 7, 0, 0, 32, 112, 255, 511]
theorem spec_l3Without.tab1 : rtab .any (opsOf Try.f27 1) = spec_l3Without.T1 := by kernel_rfl
theorem spec_l3Without.bits1 : waitsOk spec_l3Without.T1.2 spec_l3Without.B1 = true := by kernel_rfl
set_option maxHeartbeats 8000000 in
set_option maxRecDepth 100000 in
theorem spec_l3Without.calls (A0 : Option Addr) (c0 : Nat) (l0 : List Int) (a1 : Int) (r : List Int) (w : World) (hr0 : Kd.C (Kd.int .i64) w A0 l0.length l0) (hc0 : l0.length ≤ c0) (h : spec_l3Without.f l0 a1 = some r) :
  Calls Try.prog 27 #[.slice A0 l0.length c0, .int .i64 a1] w fun e w' => ∃ v0_ : Value, e = .returned (v0_) ∧ Kd.R (Kd.int .i64) 3 w' w.heap.size (fun _ => True) v0_ r ∧ Below w.heap.size w w' := by
 have HR0 := Aside0.mk hr0
 have HC0 := Aside0.mk hc0
 clear hr0 hc0
 have HB := Aside0.mk (Below.refl w.heap.size w)
 have H : (if 0 ≤ a1 then (if a1 ≤ (l0.length : Int) then ((spec_l1Own.f (l0.take (a1 : Int).toNat)).bind fun t128 => (if 0 ≤ (wrap64 (a1 + 1)) then (if (wrap64 (a1 + 1)) ≤ (l0.length : Int) then (if t128.length + (l0.drop ((wrap64 (a1 + 1)) : Int).toNat).length < 17592186044416 then (some (t128 ++ (l0.drop ((wrap64 (a1 + 1)) : Int).toNat))) else (none)) else (none)) else (none))) else (none)) else (none)) = some r := h
 clear h
 by_cases c3 : 0 ≤ a1
 rotate_left
 ·rw [if_neg c3] at H
  exact absurd H (by simp)
 rw [if_pos c3] at H
 have c3b0 := eq_true c3
 have c3b1 : decide (0 ≤ a1) = true := decide_eq_true c3
 clear c3
 by_cases c4 : a1 ≤ (l0.length : Int)
 rotate_left
 ·rw [if_neg c4] at H
  exact absurd H (by simp)
 rw [if_pos c4] at H
 have c4b0 := eq_true c4
 have c4b1 : decide (a1 ≤ (l0.length : Int)) = true := decide_eq_true c4
 clear c4
 replace H := Option.bind_eq_some_iff.mp H
 obtain ⟨t128, A50, H⟩ := H
 replace H : (if 0 ≤ (wrap64 (a1 + 1)) then (if (wrap64 (a1 + 1)) ≤ (l0.length : Int) then (if t128.length + (l0.drop ((wrap64 (a1 + 1)) : Int).toNat).length < 17592186044416 then (some (t128 ++ (l0.drop ((wrap64 (a1 + 1)) : Int).toNat))) else (none)) else (none)) else (none)) = some r := H
 have A5 := Aside0.mk A50
 clear A50
 obtain ⟨ji6, hji6⟩ : ∃ j_ : Int, (wrap64 (a1 + 1)) = j_ := ⟨_, rfl⟩
 replace H : (if 0 ≤ (ji6) then (if (ji6) ≤ (l0.length : Int) then (if t128.length + (l0.drop ((ji6) : Int).toNat).length < 17592186044416 then (some (t128 ++ (l0.drop ((ji6) : Int).toNat))) else (none)) else (none)) else (none)) = some r := by first | (rw [hji6] at H; exact H) | (simp only [hji6] at H ⊢; exact H)
 (try rw [hji6] at A5)
 have hji6w : (IntKind.i64.wrap (a1 + 1)) = ji6 := (i64_w _).trans hji6
 by_cases c7 : 0 ≤ (ji6)
 rotate_left
 ·rw [if_neg c7] at H
  exact absurd H (by simp)
 rw [if_pos c7] at H
 have c7b0 := eq_true c7
 have c7b1 : decide (0 ≤ (ji6)) = true := decide_eq_true c7
 clear c7
 by_cases c8 : (ji6) ≤ (l0.length : Int)
 rotate_left
 ·rw [if_neg c8] at H
  exact absurd H (by simp)
 rw [if_pos c8] at H
 have c8b0 := eq_true c8
 have c8b1 : decide ((ji6) ≤ (l0.length : Int)) = true := decide_eq_true c8
 clear c8
 by_cases c9 : t128.length + (l0.drop ((ji6) : Int).toNat).length < 17592186044416
 rotate_left
 ·rw [if_neg c9] at H
  exact absurd H (by simp)
 rw [if_pos c9] at H
 have LMc9 := Aside0.mk c9
 clear c9
 obtain ⟨y132, hy132⟩ : ∃ y_ : List Int, y_ = (t128 ++ (l0.drop ((ji6) : Int).toNat)) := ⟨_, rfl⟩
 replace H : (some y132) = some r := by first | (rw [hy132]; with_reducible exact H) | (have H2_ := (Option.bind_some _ _).symm.trans H; rw [hy132]; with_reducible exact H2_) | (have H2_ := (Option.bind_some _ _).symm.trans H; with_reducible exact H2_) | with_reducible exact H | (rw [hy132]; exact H) | exact H
 have Ny132 := Aside0.mk hy132
 clear hy132
 obtain rfl := Option.some.inj H
 go_enter Try.func27, Try.ntmps27
 try go_wp2
 have n0_ := Aside0.mk (below_drew1 HB.out)
 replace HB := n0_
 clear n0_
 obtain ⟨i011, hi011, _, hsz11, _⟩ := info_parts info3
 obtain ⟨hcut11, hA11, hC11⟩ := print_take_of (P := Try.prog) (Value.int .i64) 0 24 3 .i64 Try.underlying24 hi011 hsz11 A0 c0 l0 a1 (of_decide_eq_true (by first | (with_reducible assumption) | assumption)) (of_decide_eq_true (by first | (with_reducible assumption) | assumption)) HC0.out
 have HR127 := Aside0.mk (Kd.C_of_reads (h1 := fun _ => rfl) (hA11 _ (Kd.reads_of_C HR0.out)))
 have HC127 := Aside0.mk hC11
 clear hA11 hC11 hi011 hsz11
 obtain ⟨i012, hi012, _, hsz12, _⟩ := info_parts info3
 obtain ⟨A12, hcut12, hA12, hC12⟩ := print_drop_of (P := Try.prog) (Value.int .i64) 0 24 3 .i64 Try.underlying24 hi012 hsz12 A0 c0 l0 (ji6) (of_decide_eq_true (by first | (with_reducible assumption) | assumption)) (of_decide_eq_true (by first | (with_reducible assumption) | assumption)) HC0.out
 have HR131 := Aside0.mk (Kd.C_of_reads (h1 := fun _ => rfl) (hA12 _ (Kd.reads_of_C HR0.out)))
 have HC131 := Aside0.mk hC12
 clear hA12 hC12 hi012 hsz12
 refine start_ (n := 10) (S := fun w' => True) (ds := []) q27_0 (by kernel_rfl) rfl rfl trivial (fun hHeld => ?_); refine with_tabW spec_l3Without.tab1 spec_l3Without.bits1 (fun HT_ HW_ => ?_)
 generalize w.drew = w10 at HB HR127 HR131 hHeld ⊢
 refine pup_ (i := 0) (N := some 5) HT_ rfl rfl (by kernel_rfl) (fun _ _ _ h => h) (Or.inl ⟨by rfl, by intro w'; go_simp; with_reducible rfl⟩) (by simp only [aq_]; rfl) ?_
 refine pup_ (i := 1) (N := some 6) HT_ rfl rfl (by kernel_rfl) (fun _ _ _ h => h) (Or.inl ⟨by rfl, by intro w'; go_simp; with_reducible rfl⟩) (by simp only [aq_]; rfl) ?_
 refine pup_ (i := 2) (N := some 7) HT_ rfl rfl (by kernel_rfl) (fun _ _ _ h => h) (Or.inl ⟨by rfl, by intro w'; go_simp; with_reducible rfl⟩) (by simp only [aq_]; rfl) ?_
 refine pup_ (i := 4) (N := some 9) HT_ rfl rfl (by kernel_rfl) (fun _ _ _ h => h) (Or.inl ⟨by rfl, by intro w'; go_simp; with_reducible rfl⟩) (by simp only [aq_]; rfl) ?_
 refine pup_ (i := 5) (N := some 10) HT_ rfl rfl (by kernel_rfl) (fun _ _ _ h => h) (Or.inl ⟨by rfl, by intro w'; go_simp; with_reducible rfl⟩) (by simp only [aq_]; rfl) ?_
 refine pup_ (i := 6) (N := some 11) HT_ rfl rfl (by kernel_rfl) (fun _ _ _ h => h) (Or.inl ⟨by rfl, by intro w'; go_simp; with_reducible rfl⟩) (by simp only [aq_]; rfl) ?_
 refine pup_ (i := 7) (N := some 12) HT_ rfl rfl (by kernel_rfl) (fun _ _ _ h => h) (Or.inl ⟨by rfl, by intro w'; go_simp; with_reducible rfl⟩) (by simp only [aq_]; rfl) ?_
 refine one_ (i := 3) (N := some 8) q27_8 rfl rfl (one_of HT_.out (by kernel_rfl)) (by decide) (fun K hK => ?_)
 refine goes_ Try.func15 (by kernel_rfl) rfl #[.slice A0 (l0.take (a1 : Int).toNat).length c0] (by rfl) rfl rfl (by (try simp only [mA_]); first | done | (rw [show (l0.take (a1 : Int).toNat).length = a1.toNat from (by rw [List.length_take]; have h_ : (a1 : Int) ≤ (l0.length : Int) := of_decide_eq_true (by first | (with_reducible assumption) | assumption); omega)] <;> rfl) | rfl | (simp only [List.length_drop, List.length_take]; rfl)) ?_
 with_reducible refine (spec_l1Own.calls _ _ (l0.take (a1 : Int).toNat) t128 _ ?side1 ?side2 A5.out).mono ?_
 (case side1 => first | exact bC HR127.out HB.out | exact Kd.C_below HR127.out HB.out)
 (case side2 => exact HC127.out)
 rintro e w13 ⟨v129, rfl, ho0, hb⟩
 refine ⟨_, rfl, ?_⟩
 have n0_ := Aside0.mk (Kd.R_lower ho0 (below_size (bw HB.out)))
 have n1_ := Aside0.mk (below_step (bw HB.out) hb)
 have HO130 := n0_
 replace HB := n1_
 clear n0_ n1_
 (try clear hb)
 (try clear hb2)
 (try clear hk)
 (try clear hi)
 (try clear ho0)
 refine hK.out _ _ trivial (fun hHeld => ?_)
 clear hK K
 refine norm_ (a' := ?_) ?_ ?_
 rotate_left
 ·show Act.put _ (some 8) _ = _
  simp only [aq_]
  rfl
 refine one_ (i := 8) (N := some 13) q27_9 rfl rfl (one_of HT_.out (by kernel_rfl)) (by decide) (fun K hK => ?_)
 refine Kd.R_append_rows_step (Kd.int .i64) (w0 := w) w.heap.size (by rfl) (.tmp 8) (.tmp 12) 24 3 (.int .i64 0) 8 rfl Try.underlying24 info3 rfl (by decide) (by omega) v129 t128 (l0.drop ((ji6) : Int).toNat) _ _ _ (fun _ => True) (fun _ => False) rfl rfl ?aO ?aR (fun _ _ h => h) (fun _ h => h.elim) ?aF ?aB ?aS ?aL ?_
 (case aR => first | (rw [← show (l0.drop ((ji6) : Int).toNat).length = (l0.length - (ji6).toNat) from List.length_drop]; first | exact bC HR131.out HB.out | exact Kd.C_below HR131.out HB.out) | (first | exact bC HR131.out HB.out | exact Kd.C_below HR131.out HB.out))
 (case aB => exact (bw HB.out))
 (case aF => exact (fun _ _ => trivial))
 (case aO => exact (bR HO130.out))
 (case aS => exact (below_size (bw HB.out)))
 (case aL => have := LMc9.out; have hlx_ := (show (l0.drop ((ji6) : Int).toNat).length = (l0.length - (ji6).toNat) from List.length_drop); omega)
 intro v133 w14 ho hb hg hat
 rw [← Ny132.out] at ho
 have n0_ := Aside0.mk (hb)
 have n1_ := Aside0.mk (ho)
 clear HO130
 replace HB := n0_
 have HO134 := n1_
 clear n0_ n1_
 clear ho hb hg hat
 refine hK.out _ _ trivial (fun hHeld => ?_)
 clear hK K
 refine norm_ (a' := ?_) ?_ ?_
 rotate_left
 ·show Act.put _ (some 13) _ = _
  simp only [aq_]
  rfl
 refine pup_ (i := 9) (N := some 4) HT_ rfl rfl (by kernel_rfl) (fun _ _ _ h => h) (Or.inl ⟨by rfl, by intro w'; go_simp; with_reducible rfl⟩) (by simp only [aq_]; rfl) ?_
 refine done_ (done_of HT_.out (by kernel_rfl)) ?_
 try go_wp2
 go_ret
 exact ⟨_, by first | rfl | (simp [errW_none, errW_some] <;> rfl) | (simp only [← hji6]; first | rfl | (simp [errW_none, errW_some] <;> rfl)) | (simp [*, errW_none, errW_some] <;> rfl), by (with_reducible repeat (first | apply Kd.R_alloc | apply Kd.R_drewN | apply Kd.R_drew)); exact HO134.out, bw HB.out⟩

end Go.Proofs.Ytphhfdofmicejaa.X
