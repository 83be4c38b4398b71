-- Written by a program of this session (wip/gen/xp.py, over the kit's printer). Not trusted: Lean checks it.
import Derived.Test.YtoagdnojoodloaaX0
import Derived.Test.YtoagdnojoodloaaXf10
import Derived.Test.YtoagdnojoodloaaXf12
import Derived.Test.YtoagdnojoodloaaXf27
import Derived.Test.YtoagdnojoodloaaXf7
namespace Go.Proofs.Ytoagdnojoodloaa.X
open Go.RowKit Go.Proofs.YtoagdnojoodloaaW.PrintWords Go.Proofs.YtoagdnojoodloaaW.PrintLast Go.Proofs.YtoagdnojoodloaaW.PrintMore
attribute [local go_sem] max2_int min2_int max_two min_two max_three min_three max_four min_four   -- for this text's walks alone
set_option linter.unusedVariables false
set_option linter.unusedSimpArgs false

/-! ### laws_szJobSS: function 21 -/
def laws_szJobSS.l0 : Nat → List (List (S63)) → Int → Int → Option (Int)
 | 0, _, _, _ => none
 | k + 1, x0, x1, x5 => if x5 < (x0.length : Int) then (if 0 ≤ x5 then ((laws_szJobS.f (rd_L9 x0 x5) x1).bind fun t611 => (if t611 < 0 then (some (-1)) else (laws_szJobSS.l0 k x0 t611 (wrap64 (x5 + 1))))) else (none)) else (some x1)
def laws_szJobSS.f (k : Nat) (l0 : List (List (S63))) (a1 : Int) : Option (Int) := if (wrap64 (a1 - (l0.length : Int))) < 0 then (some (-1)) else (laws_szJobSS.l0 k l0 (wrap64 (a1 - (l0.length : Int))) 0)
theorem laws_szJobSS.mono_l : ∀ k, (∀ y0 y1 y2, LeO (laws_szJobSS.l0 k y0 y1 y2) (laws_szJobSS.l0 (k + 1) y0 y1 y2))
 | 0 => fun _ _ _ r h => by simp [laws_szJobSS.l0] at h
 | k + 1 => by
  have ih0 := laws_szJobSS.mono_l k
  ·intro y0 y1 y2
   unfold laws_szJobSS.l0
   repeat' first
   | (with_reducible exact ih0 _ _ _)
   | (with_reducible exact LeO.refl _)
   | (with_reducible exact LeO.none _)
   | (with_reducible refine LeO.ite ?_ ?_)
   | (with_reducible refine LeO.bind ?_ (fun _ => ?_))
   | exact ih0 _ _ _
   | exact LeO.none _
   | refine LeO.ite ?_ ?_
   | refine LeO.bind ?_ (fun _ => ?_)
theorem laws_szJobSS.mono : ∀ a0 a1 k, LeO (laws_szJobSS.f k a0 a1) (laws_szJobSS.f (k + 1) a0 a1) := by
 intro a0 a1 k
 have ih0 := laws_szJobSS.mono_l k
 unfold laws_szJobSS.f
 repeat' first
   | (with_reducible exact ih0 _ _ _)
   | (with_reducible exact LeO.refl _)
   | (with_reducible exact LeO.none _)
   | (with_reducible refine LeO.ite ?_ ?_)
   | (with_reducible refine LeO.bind ?_ (fun _ => ?_))
   | exact ih0 _ _ _
   | exact LeO.none _
   | refine LeO.ite ?_ ?_
   | refine LeO.bind ?_ (fun _ => ?_)
set_option maxHeartbeats 8000000 in
set_option maxRecDepth 100000 in
theorem laws_szJobSS.calls (k : Nat) (A0 : Option Addr) (c0 : Nat) (l0 : List (List (S63))) (a1 : Int) (r : Int) (w : World) (hr0 : Kd.C (Kd.slice 63 k63) w A0 l0.length l0) (hc0 : l0.length ≤ c0) (h : laws_szJobSS.f k l0 a1 = some r) :
  Calls Try.prog 21 #[.slice A0 l0.length c0, .int .i64 a1] w fun e w' => e = .returned (.int .i64 r) ∧ Drawn0 w w' := by
 have HR0 := Aside0.mk hr0
 have HC0 := Aside0.mk hc0
 clear hr0 hc0
 have H : (if (wrap64 (a1 - (l0.length : Int))) < 0 then (some (-1)) else (laws_szJobSS.l0 k l0 (wrap64 (a1 - (l0.length : Int))) 0)) = some r := h
 clear h
 by_cases c3 : (wrap64 (a1 - (l0.length : Int))) < 0
 ·rw [if_pos c3] at H
  have c3b0 : decide ((wrap64 (a1 - (l0.length : Int))) < 0) = true := decide_eq_true c3
  clear c3
  obtain rfl := Option.some.inj H
  go_enter Try.func21, Try.ntmps21
  go_wp2
  go_ret
  exact ⟨by first | rfl | (simp; done) | (simp [*]; done), by repeat (first | exact Drawn0.refl _ | apply Drawn0.step)⟩
 rw [if_neg c3] at H
 have c3b0 : decide ((wrap64 (a1 - (l0.length : Int))) < 0) = false := decide_eq_false c3
 clear c3
 have H' := Aside0.mk H
 clear H
 go_enter Try.func21, Try.ntmps21
 go_wp2
 go_loopg [1, 5] k (fun kq v1 v5 w' => ∃ (x1_1 : Int) (x5_1 : Int), v1 = .int .i64 x1_1 ∧ v5 = .int .i64 x5_1 ∧ Aside0 (laws_szJobSS.l0 kq l0 x1_1 x5_1 = some r) ∧ Aside0 (kq ≤ k) ∧ Drawn0 w w')
 case atStart => exact ⟨(wrap64 (a1 - (l0.length : Int))), (0), (by first | rfl | (simp; done) | (simp [*]; done)), (by first | rfl | (simp; done) | (simp [*]; done)), H', ⟨Nat.le_refl _⟩, by repeat (first | exact Drawn0.refl _ | apply Drawn0.step)⟩
 case round =>
  clear H'
  try clear c2
  try clear p2
  try clear c3
  try clear c3b0
  obtain ⟨x1_1, x5_1, rfl, rfl, HA, HK1, ⟨m1, rfl⟩⟩ := hrel
  cases gk with
  | zero => exact absurd HA.out (by simp [laws_szJobSS.l0])
  | succ k1 =>
   have H := HA.out
   clear HA
   simp only [laws_szJobSS.l0] at H
   by_cases c4 : x5_1 < (l0.length : Int)
   rotate_left
   ·rw [if_neg c4] at H
    have c4b0 : decide (x5_1 < (l0.length : Int)) = false := decide_eq_false c4
    clear c4
    obtain rfl := Option.some.inj H
    go_wp2
    go_ret
    exact ⟨by first | rfl | (simp; done) | (simp [*]; done), by repeat (first | exact Drawn0.refl _ | apply Drawn0.step)⟩
   rw [if_pos c4] at H
   have c4b0 : decide (x5_1 < (l0.length : Int)) = true := decide_eq_true c4
   clear c4
   by_cases c5 : 0 ≤ x5_1
   rotate_left
   ·rw [if_neg c5] at H
    exact absurd H (by simp)
   rw [if_pos c5] at H
   have c5b0 : decide (0 ≤ x5_1) = true := decide_eq_true c5
   clear c5
   replace H := Option.bind_eq_some_iff.mp H
   obtain ⟨t611, A60, H⟩ := H
   replace H : (if t611 < 0 then (some (-1)) else (laws_szJobSS.l0 k1 l0 t611 (wrap64 (x5_1 + 1)))) = some r := H
   have A6 := Aside0.mk A60
   clear A60
   by_cases c7 : t611 < 0
   ·rw [if_pos c7] at H
    have c7b0 : decide (t611 < 0) = true := decide_eq_true c7
    clear c7
    obtain rfl := Option.some.inj H
    have p610 : 0 ≤ (x5_1 : Int) := of_decide_eq_true (by first | (with_reducible assumption) | assumption)
    have q610 : x5_1 < (l0.length : Int) := of_decide_eq_true (by first | (with_reducible assumption) | assumption)
    obtain ⟨ad610, A610_0, c610_0, e610, hx610_0, hl610_0, hi610_0⟩ := at_L9 HR0.out x5_1 p610 q610
    cases e610
    have HR610_0 := Aside0.mk hi610_0
    have HC610_0 := Aside0.mk hl610_0
    clear hi610_0 hl610_0
    replace p610 := eq_true p610
    replace q610 := eq_true q610
    go_wp2_with (first | ((with_reducible refine gate_callee (f := 7) rfl ?_); refine goesL_ (some 23) rfl rfl Try.func7 (by kernel_rfl) rfl #[.slice A610_0 (rd_L9 l0 x5_1).length c610_0, .int .i64 x1_1] rfl (by (try simp only [mA_]); first | done | rfl | (simp only [List.length_drop, List.length_take]; rfl)) ?_; (with_reducible refine (laws_szJobS.calls _ _ (rd_L9 l0 x5_1) x1_1 t611 _ ?side1 ?side2 A6.out).mono ?_); (case side1 => repeat (first | exact HR610_0.out | (with_reducible refine Kd.C_alloc ?_ _) | (with_reducible refine Kd.C_drewN ?_ _) | (with_reducible refine Kd.C_drew ?_))); (case side2 => exact HC610_0.out); rintro e w' ⟨rfl, ⟨nd, rfl⟩⟩; refine ⟨_, rfl, ?_⟩))
    go_ret
    exact ⟨by first | rfl | (simp; done) | (simp [*]; done), by repeat (first | exact Drawn0.refl _ | apply Drawn0.step)⟩
   rw [if_neg c7] at H
   have c7b0 : decide (t611 < 0) = false := decide_eq_false c7
   clear c7
   have H' := Aside0.mk H
   clear H
   have p610 : 0 ≤ (x5_1 : Int) := of_decide_eq_true (by first | (with_reducible assumption) | assumption)
   have q610 : x5_1 < (l0.length : Int) := of_decide_eq_true (by first | (with_reducible assumption) | assumption)
   obtain ⟨ad610, A610_0, c610_0, e610, hx610_0, hl610_0, hi610_0⟩ := at_L9 HR0.out x5_1 p610 q610
   cases e610
   have HR610_0 := Aside0.mk hi610_0
   have HC610_0 := Aside0.mk hl610_0
   clear hi610_0 hl610_0
   replace p610 := eq_true p610
   replace q610 := eq_true q610
   go_wp2_with (first | ((with_reducible refine gate_callee (f := 7) rfl ?_); refine goesL_ (some 23) rfl rfl Try.func7 (by kernel_rfl) rfl #[.slice A610_0 (rd_L9 l0 x5_1).length c610_0, .int .i64 x1_1] rfl (by (try simp only [mA_]); first | done | rfl | (simp only [List.length_drop, List.length_take]; rfl)) ?_; (with_reducible refine (laws_szJobS.calls _ _ (rd_L9 l0 x5_1) x1_1 t611 _ ?side1 ?side2 A6.out).mono ?_); (case side1 => repeat (first | exact HR610_0.out | (with_reducible refine Kd.C_alloc ?_ _) | (with_reducible refine Kd.C_drewN ?_ _) | (with_reducible refine Kd.C_drew ?_))); (case side2 => exact HC610_0.out); rintro e w' ⟨rfl, ⟨nd, rfl⟩⟩; refine ⟨_, rfl, ?_⟩))
   go_roundg k1
   case measure => have := HK1.out; omega
   case rel => exact ⟨(t611), (wrap64 (x5_1 + 1)), (by first | rfl | (simp; done) | (simp [*]; done)), (by first | rfl | (simp; done) | (simp [*]; done)), H', ⟨by have := HK1.out; omega⟩, by repeat (first | exact Drawn0.refl _ | apply Drawn0.step)⟩

/-! ### spec_l11Lists: function 79 -/
abbrev q79_0 : Array Bool := ⟨rl_ [18] false⟩
abbrev q79_4 : Array Bool := ⟨rl_ [4, 14] true⟩
abbrev q79_5 : Array Bool := ⟨rl_ [5, 13] true⟩
abbrev q79_13 : Array Bool := ⟨rl_ [11, 1, 2, 4] true⟩
abbrev q79_15 : Array Bool := ⟨rl_ [15, 3] true⟩
def spec_l11Lists.l0 : Nat → List (List (S61)) → Int → Option (Bool)
 | 0, _, _ => none
 | k + 1, x0, x3 => if x3 < (x0.length : Int) then (if 0 ≤ x3 then ((spec_l2Good.f k (rd_L4 x0 x3)).bind fun t613 => (if t613 = true then (if 0 < (x0.length : Int) then (if ((rd_L4 x0 x3).length : Int) = ((rd_L4 x0 0).length : Int) then (spec_l11Lists.l0 k x0 (wrap64 (x3 + 1))) else (some false)) else (none)) else (some false))) else (none)) else ((spec_l1In.f (x0.length : Int) 1 4).bind fun t616 => (some t616))
def spec_l11Lists.f (k : Nat) (l0 : List (List (S61))) : Option (Bool) := spec_l11Lists.l0 k l0 0
theorem spec_l11Lists.mono_l : ∀ k, (∀ y0 y1, LeO (spec_l11Lists.l0 k y0 y1) (spec_l11Lists.l0 (k + 1) y0 y1))
 | 0 => fun _ _ r h => by simp [spec_l11Lists.l0] at h
 | k + 1 => by
  have ih0 := spec_l11Lists.mono_l k
  ·intro y0 y1
   unfold spec_l11Lists.l0
   repeat' first
   | (with_reducible exact ih0 _ _)
   | (with_reducible exact spec_l2Good.mono _ _)
   | (with_reducible exact LeO.refl _)
   | (with_reducible exact LeO.none _)
   | (with_reducible refine LeO.ite ?_ ?_)
   | (with_reducible refine LeO.bind ?_ (fun _ => ?_))
   | exact ih0 _ _
   | exact spec_l2Good.mono _ _
   | exact LeO.none _
   | refine LeO.ite ?_ ?_
   | refine LeO.bind ?_ (fun _ => ?_)
theorem spec_l11Lists.mono : ∀ a0 k, LeO (spec_l11Lists.f k a0) (spec_l11Lists.f (k + 1) a0) := by
 intro a0 k
 have ih0 := spec_l11Lists.mono_l k
 unfold spec_l11Lists.f
 repeat' first
   | (with_reducible exact ih0 _ _)
   | (with_reducible exact spec_l2Good.mono _ _)
   | (with_reducible exact LeO.refl _)
   | (with_reducible exact LeO.none _)
   | (with_reducible refine LeO.ite ?_ ?_)
   | (with_reducible refine LeO.bind ?_ (fun _ => ?_))
   | exact ih0 _ _
   | exact spec_l2Good.mono _ _
   | exact LeO.none _
   | refine LeO.ite ?_ ?_
   | refine LeO.bind ?_ (fun _ => ?_)
def spec_l11Lists.T4 : Bool × List (List Nat × List Nat) := (true, [([], []), ([], []), ([0, 1], [0, 1]), ([2], [2]), ([3], [3]), ([4], [4]), ([5, 4], [5]), ([6], [6]), ([6], [6]), ([7, 8, 6], [6, 7, 8]), ([9, 6], [6, 9]), ([10, 6], [6, 10]), ([6], [6]), ([12, 6], [6, 12]), ([13, 6], [6, 13]), ([14, 6], [6, 14]), ([11, 15, 6], [6, 11, 15]), ([6, 16], [6, 16])])
def spec_l11Lists.B4 : List Nat := [0, 0, 3, 7, 15, 31, 63, 127, 127, 511, 1023, 2047, 127, 4223, 12415, 28799, 65535, 131071]
theorem spec_l11Lists.tab4 : rtab .any (opsOf Try.f79 4) = spec_l11Lists.T4 := by kernel_rfl
theorem spec_l11Lists.bits4 : waitsOk spec_l11Lists.T4.2 spec_l11Lists.B4 = true := by kernel_rfl
set_option maxHeartbeats 8000000 in
set_option maxRecDepth 100000 in
theorem spec_l11Lists.calls (k : Nat) (A0 : Option Addr) (c0 : Nat) (l0 : List (List (S61))) (r : Bool) (w : World) (hr0 : Kd.C (Kd.slice 61 k61) w A0 l0.length l0) (hc0 : l0.length ≤ c0) (h : spec_l11Lists.f k l0 = some r) :
  Calls Try.prog 79 #[.slice A0 l0.length c0] w fun e w' => e = .returned (.bool r) ∧ Below w.heap.size w w' := by
 have HR0 := Aside0.mk hr0
 have HC0 := Aside0.mk hc0
 clear hr0 hc0
 have HB := Aside0.mk (Below.refl w.heap.size w)
 have H : (spec_l11Lists.l0 k l0 0) = some r := h
 clear h
 have H' := Aside0.mk H
 clear H
 go_enter Try.func79, Try.ntmps79
 go_wp2
 go_loopg [3] k (fun kq v3 w' => ∃ (x3_1 : Int), v3 = .int .i64 x3_1 ∧ Aside0 (spec_l11Lists.l0 kq l0 x3_1 = some r) ∧ Aside0 (kq ≤ k) ∧ Aside0 (Below w.heap.size w w'))
 case atStart => exact ⟨(0), (by first | rfl | (simp; done) | (simp [*]; done)), H', ⟨Nat.le_refl _⟩, ⟨bw HB.out⟩⟩
 case round =>
  clear H'
  obtain ⟨x3_1, rfl, HA, HK1, HB⟩ := hrel
  cases gk with
  | zero => exact absurd HA.out (by simp [spec_l11Lists.l0])
  | succ k1 =>
   have H := HA.out
   clear HA
   simp only [spec_l11Lists.l0] at H
   by_cases c2 : x3_1 < (l0.length : Int)
   rotate_left
   ·rw [if_neg c2] at H
    have c2b0 : decide (x3_1 < (l0.length : Int)) = false := decide_eq_false c2
    clear c2
    replace H := Option.bind_eq_some_iff.mp H
    obtain ⟨t616, A140, H⟩ := H
    replace H : (some t616) = some r := H
    have A14 := Aside0.mk A140
    clear A140
    obtain rfl := Option.some.inj H
    go_wp2_with (first | ((with_reducible refine gate_callee (f := 56) rfl ?_); refine goesL_ (some 30) rfl rfl Try.func56 (by kernel_rfl) rfl #[.int .i64 (l0.length : Int), .int .i64 1, .int .i64 4] rfl (by (try simp only [mA_]); first | done | rfl | (simp only [List.length_drop, List.length_take]; rfl)) ?_; (with_reducible refine (spec_l1In.calls (l0.length : Int) 1 4 t616 _ A14.out).mono ?_); rintro e w' ⟨rfl, ⟨nd, rfl⟩⟩; refine ⟨_, rfl, ?_⟩))
    go_ret
    exact ⟨by first | rfl | (simp [errW_none, errW_some] <;> rfl) | (simp [*, errW_none, errW_some] <;> rfl), bw HB.out⟩
   rw [if_pos c2] at H
   have c2b0 : decide (x3_1 < (l0.length : Int)) = true := decide_eq_true c2
   clear c2
   by_cases c3 : 0 ≤ x3_1
   rotate_left
   ·rw [if_neg c3] at H
    exact absurd H (by simp)
   rw [if_pos c3] at H
   have c3b0 : decide (0 ≤ x3_1) = true := decide_eq_true c3
   clear c3
   replace H := Option.bind_eq_some_iff.mp H
   obtain ⟨t613, A40, H⟩ := H
   replace H : (if t613 = true then (if 0 < (l0.length : Int) then (if ((rd_L4 l0 x3_1).length : Int) = ((rd_L4 l0 0).length : Int) then (spec_l11Lists.l0 k1 l0 (wrap64 (x3_1 + 1))) else (some false)) else (none)) else (some false)) = some r := H
   have A4 := Aside0.mk A40
   clear A40
   by_cases c5 : t613 = true
   rotate_left
   ·replace c5 := Bool.eq_false_iff.mpr c5
    subst c5
    have H1 : (some false) = some r := by rw [if_neg (show ¬ (false = true) by decide)] at H; exact H
    clear H
    have H := H1
    clear H1
    obtain rfl := Option.some.inj H
    try go_wp2
    have n0_ := Aside0.mk (below_drew1 HB.out)
    replace HB := n0_
    clear n0_
    have p612 : 0 ≤ (x3_1 : Int) := of_decide_eq_true (by first | (with_reducible assumption) | assumption)
    have q612 : x3_1 < (l0.length : Int) := of_decide_eq_true (by first | (with_reducible assumption) | assumption)
    obtain ⟨ad612, A612_0, c612_0, e612, hx612_0, hl612_0, hi612_0⟩ := at_L4 HR0.out x3_1 p612 q612
    have hw612_0 := hx612_0
    cases e612
    replace hx612_0 := (HB.out.cell (World.block_lt_of_cell? w _ hx612_0)).trans hx612_0
    have HR612_0 := Aside0.mk hi612_0
    have HC612_0 := Aside0.mk hl612_0
    clear hi612_0 hl612_0
    replace p612 := eq_true p612
    replace q612 := eq_true q612
    refine start_ (n := 18) (S := fun w' => w'.cell? (ad612.add (x3_1).toNat) = some (.slice A612_0 (rd_L4 l0 x3_1).length c612_0)) (ds := []) q79_0 (by kernel_rfl) rfl rfl ((bcl_ HB.out hw612_0 :)) (fun hHeld => ?_); refine with_tabW spec_l11Lists.tab4 spec_l11Lists.bits4 (fun HT_ HW_ => ?_)
    generalize wr.drew = w12 at HB HR612_0 hx612_0 hHeld ⊢
    refine pup_ (i := 0) (N := some 10) HT_ rfl rfl (by kernel_rfl) (fun _ _ _ h => h) (Or.inl ⟨by rfl, by intro w'; go_simp; with_reducible rfl⟩) (by simp only [aq_]; rfl) ?_
    refine pup_ (i := 1) (N := some 11) HT_ rfl rfl (by kernel_rfl) (fun _ _ _ h => h) (Or.inl ⟨by rfl, by intro w'; go_simp; with_reducible rfl⟩) (by simp only [aq_]; rfl) ?_
    refine pup_ (i := 2) (N := some 12) HT_ rfl rfl (by kernel_rfl) (fun _ _ _ h => h) (Or.inl ⟨by rfl, by intro w'; go_simp; with_reducible rfl⟩) (by simp only [aq_]; rfl) ?_
    refine take_ (i := 3) (N := some 13) (v := ?_) (a' := ?_) q79_4 rfl rfl (take_ofW HT_.out HW_.out (by kernel_rfl)) (fun _ _ _ h => h) (Or.inl ⟨by rfl, ?_⟩) hHeld ?_ ?_
    rotate_left
    ·intro w' s0
     go_simp
     with_reducible rfl
    rotate_left
    ·simp only [aq_]
     rfl
    refine one_ (i := 4) (N := some 14) q79_5 rfl rfl (one_of HT_.out (by kernel_rfl)) (by decide) (fun K hK => ?_)
    refine goes_ Try.func54 (by kernel_rfl) rfl #[.slice A612_0 (rd_L4 l0 x3_1).length c612_0] (by rfl) rfl rfl (by (try simp only [mA_]); first | done | rfl | (simp only [List.length_drop, List.length_take]; rfl)) ?_
    with_reducible refine (spec_l2Good.calls k1 _ _ (rd_L4 l0 x3_1) false _ ?side1 ?side2 A4.out).mono ?_
    (case side1 => first | exact bC HR612_0.out HB.out | exact Kd.C_below HR612_0.out HB.out)
    (case side2 => exact HC612_0.out)
    rintro e w13 ⟨rfl, hb⟩
    refine ⟨_, rfl, ?_⟩
    have n0_ := Aside0.mk (below_step (bw HB.out) hb)
    replace HB := n0_
    clear n0_
    (try clear hb)
    (try clear hb2)
    (try clear hk)
    (try clear hi)
    refine hK.out _ _ ((bcl_ HB.out hw612_0 :)) (fun hHeld => ?_)
    clear hK K
    refine norm_ (a' := ?_) ?_ ?_
    rotate_left
    ·show Act.put _ (some 14) _ = _
     simp only [aq_]
     rfl
    refine pup_ (i := 5) (N := some 15) HT_ rfl rfl (by kernel_rfl) (fun _ _ _ h => h) (Or.inl ⟨by rfl, by intro w'; go_simp; with_reducible rfl⟩) (by simp only [aq_]; rfl) ?_
    refine pup_ (i := 6) (N := some 16) HT_ rfl rfl (by kernel_rfl) (fun _ _ _ h => h) (Or.inl ⟨by rfl, by intro w'; go_simp; with_reducible rfl⟩) (by simp only [aq_]; rfl) ?_
    refine skp_ HT_ 7 (some 17) rfl rfl (by kernel_rfl) (fun _ _ _ h => h) (by rfl) (by simp only [aq_]; rfl) ?_
    refine skp_ HT_ 8 (some 18) rfl rfl (by kernel_rfl) (fun _ _ _ h => h) (by rfl) (by simp only [aq_]; rfl) ?_
    refine skp_ HT_ 9 (some 19) rfl rfl (by kernel_rfl) (fun _ _ _ h => h) (by rfl) (by simp only [aq_]; rfl) ?_
    refine skp_ HT_ 10 (some 20) rfl rfl (by kernel_rfl) (fun _ _ _ h => h) (by rfl) (by simp only [aq_]; rfl) ?_
    refine skp_ HT_ 11 (some 21) rfl rfl (by kernel_rfl) (fun _ _ _ h => h) (by rfl) (by simp only [aq_]; rfl) ?_
    refine skp_ HT_ 12 (some 22) rfl rfl (by kernel_rfl) (fun _ _ _ h => h) (by rfl) (by simp only [aq_]; rfl) ?_
    refine skp_ HT_ 13 (some 23) rfl rfl (by kernel_rfl) (fun _ _ _ h => h) (by rfl) (by simp only [aq_]; rfl) ?_
    refine skp_ HT_ 14 (some 24) rfl rfl (by kernel_rfl) (fun _ _ _ h => h) (by rfl) (by simp only [aq_]; rfl) ?_
    refine skp_ HT_ 15 (some 25) rfl rfl (by kernel_rfl) (fun _ _ _ h => h) (by rfl) (by simp only [aq_]; rfl) ?_
    refine skp_ HT_ 16 (some 26) rfl rfl (by kernel_rfl) (fun _ _ _ h => h) (by rfl) (by simp only [aq_]; rfl) ?_
    refine pup_ (i := 17) (N := some 27) HT_ rfl rfl (by kernel_rfl) (fun _ _ _ h => h) (Or.inl ⟨by rfl, by intro w'; go_simp; with_reducible rfl⟩) (by simp only [aq_]; rfl) ?_
    refine done_ (done_of HT_.out (by kernel_rfl)) ?_
    try go_wp2
    go_ret
    exact ⟨by first | rfl | (simp [errW_none, errW_some] <;> rfl) | (simp [*, errW_none, errW_some] <;> rfl), bw HB.out⟩
   subst c5
   have H1 : (if 0 < (l0.length : Int) then (if ((rd_L4 l0 x3_1).length : Int) = ((rd_L4 l0 0).length : Int) then (spec_l11Lists.l0 k1 l0 (wrap64 (x3_1 + 1))) else (some false)) else (none)) = some r := by rw [if_pos rfl] at H; exact H
   clear H
   have H := H1
   clear H1
   by_cases c6 : 0 < (l0.length : Int)
   rotate_left
   ·rw [if_neg c6] at H
    exact absurd H (by simp)
   rw [if_pos c6] at H
   have c6b0 : decide (0 < (l0.length : Int)) = true := decide_eq_true c6
   have c6b1 : decide (0 < l0.length) = true := decide_eq_true (by omega)
   clear c6
   by_cases c7 : ((rd_L4 l0 x3_1).length : Int) = ((rd_L4 l0 0).length : Int)
   rotate_left
   ·rw [if_neg c7] at H
    have c7b0 : (((rd_L4 l0 x3_1).length : Int) == ((rd_L4 l0 0).length : Int)) = false := beq_eq_false_iff_ne.mpr c7
    have c7b1 : (((rd_L4 l0 x3_1).length : Int) != ((rd_L4 l0 0).length : Int)) = true := bne_iff_ne.mpr c7
    have c7b2 : ((rd_L4 l0 x3_1).length == (rd_L4 l0 0).length) = false := by first | simpa using c7 | (simp at c7 ⊢; omega)
    obtain rfl := Option.some.inj H
    try go_wp2
    have n0_ := Aside0.mk (below_drew1 HB.out)
    replace HB := n0_
    clear n0_
    have p612 : 0 ≤ (x3_1 : Int) := of_decide_eq_true (by first | (with_reducible assumption) | assumption)
    have q612 : x3_1 < (l0.length : Int) := of_decide_eq_true (by first | (with_reducible assumption) | assumption)
    obtain ⟨ad612, A612_0, c612_0, e612, hx612_0, hl612_0, hi612_0⟩ := at_L4 HR0.out x3_1 p612 q612
    have hw612_0 := hx612_0
    cases e612
    replace hx612_0 := (HB.out.cell (World.block_lt_of_cell? w _ hx612_0)).trans hx612_0
    have HR612_0 := Aside0.mk hi612_0
    have HC612_0 := Aside0.mk hl612_0
    clear hi612_0 hl612_0
    replace p612 := eq_true p612
    replace q612 := eq_true q612
    have p614 : 0 ≤ (x3_1 : Int) := of_decide_eq_true (by first | (with_reducible assumption) | assumption)
    have q614 : x3_1 < (l0.length : Int) := of_decide_eq_true (by first | (with_reducible assumption) | assumption)
    obtain ⟨ad614, A614_0, c614_0, e614, hx614_0, hl614_0, hi614_0⟩ := at_L4 HR0.out x3_1 p614 q614
    have hw614_0 := hx614_0
    obtain rfl : ad612 = ad614 := (by injection e614)
    replace hx614_0 := (HB.out.cell (World.block_lt_of_cell? w _ hx614_0)).trans hx614_0
    have HR614_0 := Aside0.mk hi614_0
    have HC614_0 := Aside0.mk hl614_0
    clear hi614_0 hl614_0
    replace p614 := eq_true p614
    replace q614 := eq_true q614
    have p615 : 0 ≤ (0 : Int) := (by omega)
    have q615 : 0 < (l0.length : Int) := of_decide_eq_true (by first | (with_reducible assumption) | assumption)
    obtain ⟨ad615, A615_0, c615_0, e615, hx615_0, hl615_0, hi615_0⟩ := at_L4 HR0.out 0 p615 q615
    have hw615_0 := hx615_0
    (try rw [show ((0 : Int)).toNat = 0 from rfl] at hw615_0)
    (try rw [show 0 * 1 = 0 from rfl] at hw615_0)
    (try rw [Addr.add_zero'] at hw615_0)
    obtain rfl : ad612 = ad615 := (by injection e615)
    have qi615 : (0 < l0.length) = True := eq_true (by omega)
    (try rw [show ((0 : Int)).toNat = 0 from rfl] at hx615_0)
    (try rw [Addr.add_zero'] at hx615_0)
    replace hx615_0 := (HB.out.cell (World.block_lt_of_cell? w _ hx615_0)).trans hx615_0
    have HR615_0 := Aside0.mk hi615_0
    have HC615_0 := Aside0.mk hl615_0
    clear hi615_0 hl615_0
    replace p615 := eq_true p615
    replace q615 := eq_true q615
    refine start_ (n := 18) (S := fun w' => w'.cell? (ad612.add (x3_1).toNat) = some (.slice A612_0 (rd_L4 l0 x3_1).length c612_0) ∧ w'.cell? (ad612.add (x3_1).toNat) = some (.slice A614_0 (rd_L4 l0 x3_1).length c614_0) ∧ w'.cell? ad612 = some (.slice A615_0 (rd_L4 l0 0).length c615_0)) (ds := []) q79_0 (by kernel_rfl) rfl rfl ⟨(bcl_ HB.out hw612_0 :), (bcl_ HB.out hw614_0 :), (bcl_ HB.out hw615_0 :)⟩ (fun hHeld => ?_); refine with_tabW spec_l11Lists.tab4 spec_l11Lists.bits4 (fun HT_ HW_ => ?_)
    generalize wr.drew = w10 at HB HR612_0 HR614_0 HR615_0 hx612_0 hx614_0 hx615_0 hHeld ⊢
    refine pup_ (i := 0) (N := some 10) HT_ rfl rfl (by kernel_rfl) (fun _ _ _ h => h) (Or.inl ⟨by rfl, by intro w'; go_simp; with_reducible rfl⟩) (by simp only [aq_]; rfl) ?_
    refine pup_ (i := 1) (N := some 11) HT_ rfl rfl (by kernel_rfl) (fun _ _ _ h => h) (Or.inl ⟨by rfl, by intro w'; go_simp; with_reducible rfl⟩) (by simp only [aq_]; rfl) ?_
    refine pup_ (i := 2) (N := some 12) HT_ rfl rfl (by kernel_rfl) (fun _ _ _ h => h) (Or.inl ⟨by rfl, by intro w'; go_simp; with_reducible rfl⟩) (by simp only [aq_]; rfl) ?_
    refine take_ (i := 3) (N := some 13) (v := ?_) (a' := ?_) q79_4 rfl rfl (take_ofW HT_.out HW_.out (by kernel_rfl)) (fun _ _ _ h => h) (Or.inl ⟨by rfl, ?_⟩) hHeld ?_ ?_
    rotate_left
    ·rintro w' ⟨s0, s1, s2⟩
     go_simp
     with_reducible rfl
    rotate_left
    ·simp only [aq_]
     rfl
    refine one_ (i := 4) (N := some 14) q79_5 rfl rfl (one_of HT_.out (by kernel_rfl)) (by decide) (fun K hK => ?_)
    refine goes_ Try.func54 (by kernel_rfl) rfl #[.slice A612_0 (rd_L4 l0 x3_1).length c612_0] (by rfl) rfl rfl (by (try simp only [mA_]); first | done | rfl | (simp only [List.length_drop, List.length_take]; rfl)) ?_
    with_reducible refine (spec_l2Good.calls k1 _ _ (rd_L4 l0 x3_1) true _ ?side1 ?side2 A4.out).mono ?_
    (case side1 => first | exact bC HR612_0.out HB.out | exact Kd.C_below HR612_0.out HB.out)
    (case side2 => exact HC612_0.out)
    rintro e w11 ⟨rfl, hb⟩
    refine ⟨_, rfl, ?_⟩
    have n0_ := Aside0.mk (below_step (bw HB.out) hb)
    replace HB := n0_
    clear n0_
    (try clear hb)
    (try clear hb2)
    (try clear hk)
    (try clear hi)
    refine hK.out _ _ ⟨(bcl_ HB.out hw612_0 :), (bcl_ HB.out hw614_0 :), (bcl_ HB.out hw615_0 :)⟩ (fun hHeld => ?_)
    clear hK K
    refine norm_ (a' := ?_) ?_ ?_
    rotate_left
    ·show Act.put _ (some 14) _ = _
     simp only [aq_]
     rfl
    refine pup_ (i := 5) (N := some 15) HT_ rfl rfl (by kernel_rfl) (fun _ _ _ h => h) (Or.inl ⟨by rfl, by intro w'; go_simp; with_reducible rfl⟩) (by simp only [aq_]; rfl) ?_
    refine pup_ (i := 6) (N := some 16) HT_ rfl rfl (by kernel_rfl) (fun _ _ _ h => h) (Or.inl ⟨by rfl, by intro w'; go_simp; with_reducible rfl⟩) (by simp only [aq_]; rfl) ?_
    refine pup_ (i := 7) (N := some 17) HT_ rfl rfl (by kernel_rfl) (fun _ _ _ h => h) (Or.inl ⟨by rfl, by intro w'; go_simp; with_reducible rfl⟩) (by simp only [aq_]; rfl) ?_
    refine pup_ (i := 8) (N := some 18) HT_ rfl rfl (by kernel_rfl) (fun _ _ _ h => h) (Or.inl ⟨by rfl, by intro w'; go_simp; with_reducible rfl⟩) (by simp only [aq_]; rfl) ?_
    refine pup_ (i := 9) (N := some 19) HT_ rfl rfl (by kernel_rfl) (fun _ _ _ h => h) (Or.inl ⟨by rfl, by intro w'; go_simp; with_reducible rfl⟩) (by simp only [aq_]; rfl) ?_
    refine pup_ (i := 12) (N := some 22) HT_ rfl rfl (by kernel_rfl) (fun _ _ _ h => h) (Or.inl ⟨by rfl, by intro w'; go_simp; with_reducible rfl⟩) (by simp only [aq_]; rfl) ?_
    refine pup_ (i := 13) (N := some 23) HT_ rfl rfl (by kernel_rfl) (fun _ _ _ h => h) (Or.inl ⟨by rfl, by intro w'; go_simp; with_reducible rfl⟩) (by simp only [aq_]; rfl) ?_
    refine take_ (i := 10) (N := some 20) (v := ?_) (a' := ?_) q79_13 rfl rfl (take_ofW HT_.out HW_.out (by kernel_rfl)) (fun _ _ _ h => h) (Or.inl ⟨by rfl, ?_⟩) hHeld ?_ ?_
    rotate_left
    ·rintro w' ⟨s0, s1, s2⟩
     go_simp
     with_reducible rfl
    rotate_left
    ·simp only [aq_]
     rfl
    refine pup_ (i := 11) (N := some 21) HT_ rfl rfl (by kernel_rfl) (fun _ _ _ h => h) (Or.inl ⟨by rfl, by intro w'; go_simp; with_reducible rfl⟩) (by simp only [aq_]; rfl) ?_
    refine take_ (i := 14) (N := some 24) (v := ?_) (a' := ?_) q79_15 rfl rfl (take_ofW HT_.out HW_.out (by kernel_rfl)) (fun _ _ _ h => h) (Or.inl ⟨by rfl, ?_⟩) hHeld ?_ ?_
    rotate_left
    ·rintro w' ⟨s0, s1, s2⟩
     go_simp
     with_reducible rfl
    rotate_left
    ·simp only [aq_]
     rfl
    refine pup_ (i := 15) (N := some 25) HT_ rfl rfl (by kernel_rfl) (fun _ _ _ h => h) (Or.inl ⟨by rfl, by intro w'; go_simp; with_reducible rfl⟩) (by simp only [aq_]; rfl) ?_
    refine pup_ (i := 16) (N := some 26) HT_ rfl rfl (by kernel_rfl) (fun _ _ _ h => h) (Or.inl ⟨by rfl, by intro w'; go_simp; with_reducible rfl⟩) (by simp only [aq_]; rfl) ?_
    refine pup_ (i := 17) (N := some 27) HT_ rfl rfl (by kernel_rfl) (fun _ _ _ h => h) (Or.inl ⟨by rfl, by intro w'; go_simp; with_reducible rfl⟩) (by simp only [aq_]; rfl) ?_
    refine done_ (done_of HT_.out (by kernel_rfl)) ?_
    try go_wp2
    go_ret
    exact ⟨by first | rfl | (simp [errW_none, errW_some] <;> rfl) | (simp [*, errW_none, errW_some] <;> rfl), bw HB.out⟩
   rw [if_pos c7] at H
   have c7b0 : (((rd_L4 l0 x3_1).length : Int) == ((rd_L4 l0 0).length : Int)) = true := beq_iff_eq.mpr c7
   have c7b1 : (((rd_L4 l0 x3_1).length : Int) != ((rd_L4 l0 0).length : Int)) = false := bne_eq_false_iff_eq.mpr c7
   have c7b2 : ((rd_L4 l0 x3_1).length == (rd_L4 l0 0).length) = true := by first | simpa using c7 | (simp at c7 ⊢; omega)
   clear c7
   have H' := Aside0.mk H
   clear H
   try go_wp2
   have n0_ := Aside0.mk (below_drew1 HB.out)
   replace HB := n0_
   clear n0_
   have p612 : 0 ≤ (x3_1 : Int) := of_decide_eq_true (by first | (with_reducible assumption) | assumption)
   have q612 : x3_1 < (l0.length : Int) := of_decide_eq_true (by first | (with_reducible assumption) | assumption)
   obtain ⟨ad612, A612_0, c612_0, e612, hx612_0, hl612_0, hi612_0⟩ := at_L4 HR0.out x3_1 p612 q612
   have hw612_0 := hx612_0
   cases e612
   replace hx612_0 := (HB.out.cell (World.block_lt_of_cell? w _ hx612_0)).trans hx612_0
   have HR612_0 := Aside0.mk hi612_0
   have HC612_0 := Aside0.mk hl612_0
   clear hi612_0 hl612_0
   replace p612 := eq_true p612
   replace q612 := eq_true q612
   have p614 : 0 ≤ (x3_1 : Int) := of_decide_eq_true (by first | (with_reducible assumption) | assumption)
   have q614 : x3_1 < (l0.length : Int) := of_decide_eq_true (by first | (with_reducible assumption) | assumption)
   obtain ⟨ad614, A614_0, c614_0, e614, hx614_0, hl614_0, hi614_0⟩ := at_L4 HR0.out x3_1 p614 q614
   have hw614_0 := hx614_0
   obtain rfl : ad612 = ad614 := (by injection e614)
   replace hx614_0 := (HB.out.cell (World.block_lt_of_cell? w _ hx614_0)).trans hx614_0
   have HR614_0 := Aside0.mk hi614_0
   have HC614_0 := Aside0.mk hl614_0
   clear hi614_0 hl614_0
   replace p614 := eq_true p614
   replace q614 := eq_true q614
   have p615 : 0 ≤ (0 : Int) := (by omega)
   have q615 : 0 < (l0.length : Int) := of_decide_eq_true (by first | (with_reducible assumption) | assumption)
   obtain ⟨ad615, A615_0, c615_0, e615, hx615_0, hl615_0, hi615_0⟩ := at_L4 HR0.out 0 p615 q615
   have hw615_0 := hx615_0
   (try rw [show ((0 : Int)).toNat = 0 from rfl] at hw615_0)
   (try rw [show 0 * 1 = 0 from rfl] at hw615_0)
   (try rw [Addr.add_zero'] at hw615_0)
   obtain rfl : ad612 = ad615 := (by injection e615)
   have qi615 : (0 < l0.length) = True := eq_true (by omega)
   (try rw [show ((0 : Int)).toNat = 0 from rfl] at hx615_0)
   (try rw [Addr.add_zero'] at hx615_0)
   replace hx615_0 := (HB.out.cell (World.block_lt_of_cell? w _ hx615_0)).trans hx615_0
   have HR615_0 := Aside0.mk hi615_0
   have HC615_0 := Aside0.mk hl615_0
   clear hi615_0 hl615_0
   replace p615 := eq_true p615
   replace q615 := eq_true q615
   refine start_ (n := 18) (S := fun w' => w'.cell? (ad612.add (x3_1).toNat) = some (.slice A612_0 (rd_L4 l0 x3_1).length c612_0) ∧ w'.cell? (ad612.add (x3_1).toNat) = some (.slice A614_0 (rd_L4 l0 x3_1).length c614_0) ∧ w'.cell? ad612 = some (.slice A615_0 (rd_L4 l0 0).length c615_0)) (ds := []) q79_0 (by kernel_rfl) rfl rfl ⟨(bcl_ HB.out hw612_0 :), (bcl_ HB.out hw614_0 :), (bcl_ HB.out hw615_0 :)⟩ (fun hHeld => ?_); refine with_tabW spec_l11Lists.tab4 spec_l11Lists.bits4 (fun HT_ HW_ => ?_)
   generalize wr.drew = w8 at HB HR612_0 HR614_0 HR615_0 hx612_0 hx614_0 hx615_0 hHeld ⊢
   refine pup_ (i := 0) (N := some 10) HT_ rfl rfl (by kernel_rfl) (fun _ _ _ h => h) (Or.inl ⟨by rfl, by intro w'; go_simp; with_reducible rfl⟩) (by simp only [aq_]; rfl) ?_
   refine pup_ (i := 1) (N := some 11) HT_ rfl rfl (by kernel_rfl) (fun _ _ _ h => h) (Or.inl ⟨by rfl, by intro w'; go_simp; with_reducible rfl⟩) (by simp only [aq_]; rfl) ?_
   refine pup_ (i := 2) (N := some 12) HT_ rfl rfl (by kernel_rfl) (fun _ _ _ h => h) (Or.inl ⟨by rfl, by intro w'; go_simp; with_reducible rfl⟩) (by simp only [aq_]; rfl) ?_
   refine take_ (i := 3) (N := some 13) (v := ?_) (a' := ?_) q79_4 rfl rfl (take_ofW HT_.out HW_.out (by kernel_rfl)) (fun _ _ _ h => h) (Or.inl ⟨by rfl, ?_⟩) hHeld ?_ ?_
   rotate_left
   ·rintro w' ⟨s0, s1, s2⟩
    go_simp
    with_reducible rfl
   rotate_left
   ·simp only [aq_]
    rfl
   refine one_ (i := 4) (N := some 14) q79_5 rfl rfl (one_of HT_.out (by kernel_rfl)) (by decide) (fun K hK => ?_)
   refine goes_ Try.func54 (by kernel_rfl) rfl #[.slice A612_0 (rd_L4 l0 x3_1).length c612_0] (by rfl) rfl rfl (by (try simp only [mA_]); first | done | rfl | (simp only [List.length_drop, List.length_take]; rfl)) ?_
   with_reducible refine (spec_l2Good.calls k1 _ _ (rd_L4 l0 x3_1) true _ ?side1 ?side2 A4.out).mono ?_
   (case side1 => first | exact bC HR612_0.out HB.out | exact Kd.C_below HR612_0.out HB.out)
   (case side2 => exact HC612_0.out)
   rintro e w9 ⟨rfl, hb⟩
   refine ⟨_, rfl, ?_⟩
   have n0_ := Aside0.mk (below_step (bw HB.out) hb)
   replace HB := n0_
   clear n0_
   (try clear hb)
   (try clear hb2)
   (try clear hk)
   (try clear hi)
   refine hK.out _ _ ⟨(bcl_ HB.out hw612_0 :), (bcl_ HB.out hw614_0 :), (bcl_ HB.out hw615_0 :)⟩ (fun hHeld => ?_)
   clear hK K
   refine norm_ (a' := ?_) ?_ ?_
   rotate_left
   ·show Act.put _ (some 14) _ = _
    simp only [aq_]
    rfl
   refine pup_ (i := 5) (N := some 15) HT_ rfl rfl (by kernel_rfl) (fun _ _ _ h => h) (Or.inl ⟨by rfl, by intro w'; go_simp; with_reducible rfl⟩) (by simp only [aq_]; rfl) ?_
   refine pup_ (i := 6) (N := some 16) HT_ rfl rfl (by kernel_rfl) (fun _ _ _ h => h) (Or.inl ⟨by rfl, by intro w'; go_simp; with_reducible rfl⟩) (by simp only [aq_]; rfl) ?_
   refine pup_ (i := 7) (N := some 17) HT_ rfl rfl (by kernel_rfl) (fun _ _ _ h => h) (Or.inl ⟨by rfl, by intro w'; go_simp; with_reducible rfl⟩) (by simp only [aq_]; rfl) ?_
   refine pup_ (i := 8) (N := some 18) HT_ rfl rfl (by kernel_rfl) (fun _ _ _ h => h) (Or.inl ⟨by rfl, by intro w'; go_simp; with_reducible rfl⟩) (by simp only [aq_]; rfl) ?_
   refine pup_ (i := 9) (N := some 19) HT_ rfl rfl (by kernel_rfl) (fun _ _ _ h => h) (Or.inl ⟨by rfl, by intro w'; go_simp; with_reducible rfl⟩) (by simp only [aq_]; rfl) ?_
   refine pup_ (i := 12) (N := some 22) HT_ rfl rfl (by kernel_rfl) (fun _ _ _ h => h) (Or.inl ⟨by rfl, by intro w'; go_simp; with_reducible rfl⟩) (by simp only [aq_]; rfl) ?_
   refine pup_ (i := 13) (N := some 23) HT_ rfl rfl (by kernel_rfl) (fun _ _ _ h => h) (Or.inl ⟨by rfl, by intro w'; go_simp; with_reducible rfl⟩) (by simp only [aq_]; rfl) ?_
   refine take_ (i := 10) (N := some 20) (v := ?_) (a' := ?_) q79_13 rfl rfl (take_ofW HT_.out HW_.out (by kernel_rfl)) (fun _ _ _ h => h) (Or.inl ⟨by rfl, ?_⟩) hHeld ?_ ?_
   rotate_left
   ·rintro w' ⟨s0, s1, s2⟩
    go_simp
    with_reducible rfl
   rotate_left
   ·simp only [aq_]
    rfl
   refine pup_ (i := 11) (N := some 21) HT_ rfl rfl (by kernel_rfl) (fun _ _ _ h => h) (Or.inl ⟨by rfl, by intro w'; go_simp; with_reducible rfl⟩) (by simp only [aq_]; rfl) ?_
   refine take_ (i := 14) (N := some 24) (v := ?_) (a' := ?_) q79_15 rfl rfl (take_ofW HT_.out HW_.out (by kernel_rfl)) (fun _ _ _ h => h) (Or.inl ⟨by rfl, ?_⟩) hHeld ?_ ?_
   rotate_left
   ·rintro w' ⟨s0, s1, s2⟩
    go_simp
    with_reducible rfl
   rotate_left
   ·simp only [aq_]
    rfl
   refine pup_ (i := 15) (N := some 25) HT_ rfl rfl (by kernel_rfl) (fun _ _ _ h => h) (Or.inl ⟨by rfl, by intro w'; go_simp; with_reducible rfl⟩) (by simp only [aq_]; rfl) ?_
   refine pup_ (i := 16) (N := some 26) HT_ rfl rfl (by kernel_rfl) (fun _ _ _ h => h) (Or.inl ⟨by rfl, by intro w'; go_simp; with_reducible rfl⟩) (by simp only [aq_]; rfl) ?_
   refine pup_ (i := 17) (N := some 27) HT_ rfl rfl (by kernel_rfl) (fun _ _ _ h => h) (Or.inl ⟨by rfl, by intro w'; go_simp; with_reducible rfl⟩) (by simp only [aq_]; rfl) ?_
   refine done_ (done_of HT_.out (by kernel_rfl)) ?_
   try go_wp2
   go_roundg k1
   case measure => have := HK1.out; omega
   case rel => exact ⟨(wrap64 (x3_1 + 1)), (by first | rfl | (simp; done) | (simp [*]; done)), H', ⟨by have := HK1.out; omega⟩, ⟨bw HB.out⟩⟩

/-! ### spec_l11Fits: function 45 -/
def spec_l11Fits.f (k : Nat) (l0 : List (List (S61))) (l1 : List Int) (a2 : Int) : Option (Bool) := (spec_l11Lists.f k l0).bind fun t617 => (if t617 = true then (if 0 < (l0.length : Int) then ((spec_l2Order.f k ((rd_L4 l0 0).length : Int) l1).bind fun t619 => (if t619 = true then ((spec_l2Objective.f a2).bind fun t620 => (some t620)) else (some false))) else (none)) else (some false))
theorem spec_l11Fits.mono : ∀ a0 a1 a2 k, LeO (spec_l11Fits.f k a0 a1 a2) (spec_l11Fits.f (k + 1) a0 a1 a2) := by
 intro a0 a1 a2 k
 unfold spec_l11Fits.f
 repeat' first
   | (with_reducible exact spec_l11Lists.mono _ _)
   | (with_reducible exact spec_l2Order.mono _ _ _)
   | (with_reducible exact LeO.refl _)
   | (with_reducible exact LeO.none _)
   | (with_reducible refine LeO.ite ?_ ?_)
   | (with_reducible refine LeO.bind ?_ (fun _ => ?_))
   | exact spec_l11Lists.mono _ _
   | exact spec_l2Order.mono _ _ _
   | exact LeO.none _
   | refine LeO.ite ?_ ?_
   | refine LeO.bind ?_ (fun _ => ?_)
set_option maxHeartbeats 8000000 in
set_option maxRecDepth 100000 in
theorem spec_l11Fits.calls (k : Nat) (A0 : Option Addr) (c0 : Nat) (l0 : List (List (S61))) (A1 : Option Addr) (c1 : Nat) (l1 : List Int) (a2 : Int) (r : Bool) (w : World) (hr0 : Kd.C (Kd.slice 61 k61) w A0 l0.length l0) (hc0 : l0.length ≤ c0) (hr1 : Kd.C (Kd.int .i64) w A1 l1.length l1) (hc1 : l1.length ≤ c1) (h : spec_l11Fits.f k l0 l1 a2 = some r) :
  Calls Try.prog 45 #[.slice A0 l0.length c0, .slice A1 l1.length c1, .int .i64 a2] w fun e w' => e = .returned (.bool r) ∧ Below w.heap.size w w' := by
 have HR0 := Aside0.mk hr0
 have HC0 := Aside0.mk hc0
 clear hr0 hc0
 have HR1 := Aside0.mk hr1
 have HC1 := Aside0.mk hc1
 clear hr1 hc1
 have HB := Aside0.mk (Below.refl w.heap.size w)
 have H : ((spec_l11Lists.f k l0).bind fun t617 => (if t617 = true then (if 0 < (l0.length : Int) then ((spec_l2Order.f k ((rd_L4 l0 0).length : Int) l1).bind fun t619 => (if t619 = true then ((spec_l2Objective.f a2).bind fun t620 => (some t620)) else (some false))) else (none)) else (some false))) = some r := h
 clear h
 replace H := Option.bind_eq_some_iff.mp H
 obtain ⟨t617, A40, H⟩ := H
 replace H : (if t617 = true then (if 0 < (l0.length : Int) then ((spec_l2Order.f k ((rd_L4 l0 0).length : Int) l1).bind fun t619 => (if t619 = true then ((spec_l2Objective.f a2).bind fun t620 => (some t620)) else (some false))) else (none)) else (some false)) = some r := H
 have A4 := Aside0.mk A40
 clear A40
 by_cases c5 : t617 = true
 rotate_left
 ·replace c5 := Bool.eq_false_iff.mpr c5
  subst c5
  have H1 : (some false) = some r := by rw [if_neg (show ¬ (false = true) by decide)] at H; exact H
  clear H
  have H := H1
  clear H1
  obtain rfl := Option.some.inj H
  go_enter Try.func45, Try.ntmps45
  go_wp2_with (first | ((with_reducible refine gate_callee (f := 79) rfl ?_); refine goesL_ (some 8) rfl rfl Try.func79 (by kernel_rfl) rfl #[.slice A0 l0.length c0] rfl (by (try simp only [mA_]); first | done | rfl | (simp only [List.length_drop, List.length_take]; rfl)) ?_; (with_reducible refine (spec_l11Lists.calls k _ _ l0 false _ ?side1 ?side2 A4.out).mono ?_); (case side1 => repeat (first | exact HR0.out | (with_reducible refine Kd.C_alloc ?_ _) | (with_reducible refine Kd.C_drewN ?_ _) | (with_reducible refine Kd.C_drew ?_))); (case side2 => exact HC0.out); rintro e w12 ⟨rfl, hb⟩; refine ⟨_, rfl, ?_⟩; have n0_ := Aside0.mk (below_step (bw HB.out) hb); replace HB := n0_; clear n0_; (try clear hb); (try clear hb2); (try clear hk); (try clear hi)))
  go_ret
  exact ⟨by first | rfl | (simp [errW_none, errW_some] <;> rfl) | (simp [*, errW_none, errW_some] <;> rfl), bw HB.out⟩
 subst c5
 have H1 : (if 0 < (l0.length : Int) then ((spec_l2Order.f k ((rd_L4 l0 0).length : Int) l1).bind fun t619 => (if t619 = true then ((spec_l2Objective.f a2).bind fun t620 => (some t620)) else (some false))) else (none)) = some r := by rw [if_pos rfl] at H; exact H
 clear H
 have H := H1
 clear H1
 by_cases c6 : 0 < (l0.length : Int)
 rotate_left
 ·rw [if_neg c6] at H
  exact absurd H (by simp)
 rw [if_pos c6] at H
 have c6b0 : decide (0 < (l0.length : Int)) = true := decide_eq_true c6
 have c6b1 : decide (0 < l0.length) = true := decide_eq_true (by omega)
 clear c6
 replace H := Option.bind_eq_some_iff.mp H
 obtain ⟨t619, A70, H⟩ := H
 replace H : (if t619 = true then ((spec_l2Objective.f a2).bind fun t620 => (some t620)) else (some false)) = some r := H
 have A7 := Aside0.mk A70
 clear A70
 by_cases c8 : t619 = true
 rotate_left
 ·replace c8 := Bool.eq_false_iff.mpr c8
  subst c8
  have H1 : (some false) = some r := by rw [if_neg (show ¬ (false = true) by decide)] at H; exact H
  clear H
  have H := H1
  clear H1
  obtain rfl := Option.some.inj H
  go_enter Try.func45, Try.ntmps45
  go_wp2_with (first | ((with_reducible refine gate_callee (f := 79) rfl ?_); refine goesL_ (some 8) rfl rfl Try.func79 (by kernel_rfl) rfl #[.slice A0 l0.length c0] rfl (by (try simp only [mA_]); first | done | rfl | (simp only [List.length_drop, List.length_take]; rfl)) ?_; (with_reducible refine (spec_l11Lists.calls k _ _ l0 true _ ?side1 ?side2 A4.out).mono ?_); (case side1 => repeat (first | exact HR0.out | (with_reducible refine Kd.C_alloc ?_ _) | (with_reducible refine Kd.C_drewN ?_ _) | (with_reducible refine Kd.C_drew ?_))); (case side2 => exact HC0.out); rintro e w11 ⟨rfl, hb⟩; refine ⟨_, rfl, ?_⟩; have n0_ := Aside0.mk (below_step (bw HB.out) hb); replace HB := n0_; clear n0_; (try clear hb); (try clear hb2); (try clear hk); (try clear hi); have p618 : 0 ≤ (0 : Int) := (by omega); have q618 : 0 < (l0.length : Int) := of_decide_eq_true (by first | (with_reducible assumption) | assumption); obtain ⟨ad618, A618_0, c618_0, e618, hx618_0, hl618_0, hi618_0⟩ := at_L4 HR0.out 0 p618 q618; cases e618; have qi618 : (0 < l0.length) = True := eq_true (by omega); (try rw [show ((0 : Int)).toNat = 0 from rfl] at hx618_0); (try rw [Addr.add_zero'] at hx618_0); replace hx618_0 := (HB.out.cell (World.block_lt_of_cell? w _ hx618_0)).trans hx618_0; have HR618_0 := Aside0.mk hi618_0; have HC618_0 := Aside0.mk hl618_0; clear hi618_0 hl618_0; replace p618 := eq_true p618; replace q618 := eq_true q618) | (go_at_call 55; (with_reducible refine (spec_l2Order.calls k ((rd_L4 l0 0).length : Int) _ _ l1 false _ ?side1 ?side2 A7.out).mono ?_); (case side1 => first | exact bC HR1.out HB.out | exact Kd.C_below HR1.out HB.out); (case side2 => exact HC1.out); rintro e w' ⟨rfl, ⟨nd, rfl⟩⟩))
  go_ret
  exact ⟨by first | rfl | (simp [errW_none, errW_some] <;> rfl) | (simp [*, errW_none, errW_some] <;> rfl), bw HB.out⟩
 subst c8
 have H1 : ((spec_l2Objective.f a2).bind fun t620 => (some t620)) = some r := by rw [if_pos rfl] at H; exact H
 clear H
 have H := H1
 clear H1
 replace H := Option.bind_eq_some_iff.mp H
 obtain ⟨t620, A90, H⟩ := H
 replace H : (some t620) = some r := H
 have A9 := Aside0.mk A90
 clear A90
 obtain rfl := Option.some.inj H
 go_enter Try.func45, Try.ntmps45
 go_wp2_with (first | ((with_reducible refine gate_callee (f := 79) rfl ?_); refine goesL_ (some 8) rfl rfl Try.func79 (by kernel_rfl) rfl #[.slice A0 l0.length c0] rfl (by (try simp only [mA_]); first | done | rfl | (simp only [List.length_drop, List.length_take]; rfl)) ?_; (with_reducible refine (spec_l11Lists.calls k _ _ l0 true _ ?side1 ?side2 A4.out).mono ?_); (case side1 => repeat (first | exact HR0.out | (with_reducible refine Kd.C_alloc ?_ _) | (with_reducible refine Kd.C_drewN ?_ _) | (with_reducible refine Kd.C_drew ?_))); (case side2 => exact HC0.out); rintro e w10 ⟨rfl, hb⟩; refine ⟨_, rfl, ?_⟩; have n0_ := Aside0.mk (below_step (bw HB.out) hb); replace HB := n0_; clear n0_; (try clear hb); (try clear hb2); (try clear hk); (try clear hi); have p618 : 0 ≤ (0 : Int) := (by omega); have q618 : 0 < (l0.length : Int) := of_decide_eq_true (by first | (with_reducible assumption) | assumption); obtain ⟨ad618, A618_0, c618_0, e618, hx618_0, hl618_0, hi618_0⟩ := at_L4 HR0.out 0 p618 q618; cases e618; have qi618 : (0 < l0.length) = True := eq_true (by omega); (try rw [show ((0 : Int)).toNat = 0 from rfl] at hx618_0); (try rw [Addr.add_zero'] at hx618_0); replace hx618_0 := (HB.out.cell (World.block_lt_of_cell? w _ hx618_0)).trans hx618_0; have HR618_0 := Aside0.mk hi618_0; have HC618_0 := Aside0.mk hl618_0; clear hi618_0 hl618_0; replace p618 := eq_true p618; replace q618 := eq_true q618) | (go_at_call 55; (with_reducible refine (spec_l2Order.calls k ((rd_L4 l0 0).length : Int) _ _ l1 true _ ?side1 ?side2 A7.out).mono ?_); (case side1 => first | exact bC HR1.out HB.out | exact Kd.C_below HR1.out HB.out); (case side2 => exact HC1.out); rintro e w' ⟨rfl, ⟨nd, rfl⟩⟩) | (go_at_call 27; (with_reducible refine (spec_l2Objective.calls a2 t620 _ A9.out).mono ?_); rintro e w' ⟨rfl, ⟨nd, rfl⟩⟩))
 go_ret
 exact ⟨by first | rfl | (simp [errW_none, errW_some] <;> rfl) | (simp [*, errW_none, errW_some] <;> rfl), bw HB.out⟩

/-! ### spec_l11Worst: function 46 -/
def spec_l11Worst.l0 : Nat → List Int → List Int → Int → Int → Option (Int × Int)
 | 0, _, _, _, _ => none
 | k + 1, x0, x1, x6, x7 => if x7 < (x0.length : Int) then (if 0 ≤ x7 then (if x7 < (x1.length : Int) then (if 0 ≤ x6 then (if x6 < (x0.length : Int) then (if x6 < (x1.length : Int) then (if (wrap64 ((rd x0 x7) - (rd x1 x7))) > (wrap64 ((rd x0 x6) - (rd x1 x6))) then (spec_l11Worst.l0 k x0 x1 x7 (wrap64 (x7 + 1))) else (spec_l11Worst.l0 k x0 x1 x6 (wrap64 (x7 + 1)))) else (none)) else (none)) else (none)) else (none)) else (none)) else (if 0 ≤ x6 then (if x6 < (x0.length : Int) then (if x6 < (x1.length : Int) then (some (wrap64 ((rd x0 x6) - (rd x1 x6)), x6)) else (none)) else (none)) else (none))
def spec_l11Worst.f (k : Nat) (l0 : List Int) (l1 : List Int) : Option (Int × Int) := spec_l11Worst.l0 k l0 l1 0 1
theorem spec_l11Worst.mono_l : ∀ k, (∀ y0 y1 y2 y3, LeO (spec_l11Worst.l0 k y0 y1 y2 y3) (spec_l11Worst.l0 (k + 1) y0 y1 y2 y3))
 | 0 => fun _ _ _ _ r h => by simp [spec_l11Worst.l0] at h
 | k + 1 => by
  have ih0 := spec_l11Worst.mono_l k
  ·intro y0 y1 y2 y3
   unfold spec_l11Worst.l0
   repeat' first
   | (with_reducible exact ih0 _ _ _ _)
   | (with_reducible exact LeO.refl _)
   | (with_reducible exact LeO.none _)
   | (with_reducible refine LeO.ite ?_ ?_)
   | (with_reducible refine LeO.bind ?_ (fun _ => ?_))
   | exact ih0 _ _ _ _
   | exact LeO.none _
   | refine LeO.ite ?_ ?_
   | refine LeO.bind ?_ (fun _ => ?_)
theorem spec_l11Worst.mono : ∀ a0 a1 k, LeO (spec_l11Worst.f k a0 a1) (spec_l11Worst.f (k + 1) a0 a1) := by
 intro a0 a1 k
 have ih0 := spec_l11Worst.mono_l k
 unfold spec_l11Worst.f
 repeat' first
   | (with_reducible exact ih0 _ _ _ _)
   | (with_reducible exact LeO.refl _)
   | (with_reducible exact LeO.none _)
   | (with_reducible refine LeO.ite ?_ ?_)
   | (with_reducible refine LeO.bind ?_ (fun _ => ?_))
   | exact ih0 _ _ _ _
   | exact LeO.none _
   | refine LeO.ite ?_ ?_
   | refine LeO.bind ?_ (fun _ => ?_)
set_option maxHeartbeats 8000000 in
set_option maxRecDepth 100000 in
theorem spec_l11Worst.calls (k : Nat) (A0 : Option Addr) (c0 : Nat) (l0 : List Int) (A1 : Option Addr) (c1 : Nat) (l1 : List Int) (r1 : Int) (r2 : Int) (w : World) (hr0 : Kd.C (Kd.int .i64) w A0 l0.length l0) (hc0 : l0.length ≤ c0) (hr1 : Kd.C (Kd.int .i64) w A1 l1.length l1) (hc1 : l1.length ≤ c1) (h : spec_l11Worst.f k l0 l1 = some (r1, r2)) :
  Calls Try.prog 46 #[.slice A0 l0.length c0, .slice A1 l1.length c1] w fun e w' => e = .returned (.tuple #[.int .i64 r1, .int .i64 r2]) ∧ Drawn0 w w' := by
 have HR0 := Aside0.mk hr0
 have HC0 := Aside0.mk hc0
 clear hr0 hc0
 have HR1 := Aside0.mk hr1
 have HC1 := Aside0.mk hc1
 clear hr1 hc1
 have H : (spec_l11Worst.l0 k l0 l1 0 1) = some (r1, r2) := h
 clear h
 have H' := Aside0.mk H
 clear H
 go_enter Try.func46, Try.ntmps46
 go_wp2
 repeat (go_quiet (fail); try go_wp2)
 go_loopg [6, 7] k (fun kq v6 v7 w' => ∃ (x6_1 : Int) (x7_1 : Int), v6 = .int .i64 x6_1 ∧ v7 = .int .i64 x7_1 ∧ Aside0 (spec_l11Worst.l0 kq l0 l1 x6_1 x7_1 = some (r1, r2)) ∧ Aside0 (kq ≤ k) ∧ Drawn0 w w')
 case atStart => exact ⟨(0), (1), (by first | rfl | (simp; done) | (simp [*]; done)), (by first | rfl | (simp; done) | (simp [*]; done)), H', ⟨Nat.le_refl _⟩, by repeat (first | exact Drawn0.refl _ | apply Drawn0.step)⟩
 case round =>
  clear H'
  try clear c1
  try clear p2
  obtain ⟨x6_1, x7_1, rfl, rfl, HA, HK1, ⟨m1, rfl⟩⟩ := hrel
  cases gk with
  | zero => exact absurd HA.out (by simp [spec_l11Worst.l0])
  | succ k1 =>
   have H := HA.out
   clear HA
   simp only [spec_l11Worst.l0] at H
   by_cases c3 : x7_1 < (l0.length : Int)
   rotate_left
   ·rw [if_neg c3] at H
    have c3b0 : decide (x7_1 < (l0.length : Int)) = false := decide_eq_false c3
    clear c3
    by_cases c10 : 0 ≤ x6_1
    rotate_left
    ·rw [if_neg c10] at H
     exact absurd H (by simp)
    rw [if_pos c10] at H
    have c10b0 : decide (0 ≤ x6_1) = true := decide_eq_true c10
    clear c10
    by_cases c11 : x6_1 < (l0.length : Int)
    rotate_left
    ·rw [if_neg c11] at H
     exact absurd H (by simp)
    rw [if_pos c11] at H
    have c11b0 : decide (x6_1 < (l0.length : Int)) = true := decide_eq_true c11
    clear c11
    by_cases c12 : x6_1 < (l1.length : Int)
    rotate_left
    ·rw [if_neg c12] at H
     exact absurd H (by simp)
    rw [if_pos c12] at H
    have c12b0 : decide (x6_1 < (l1.length : Int)) = true := decide_eq_true c12
    clear c12
    simp only [Option.some.injEq, Prod.mk.injEq] at H
    obtain ⟨rfl, rfl⟩ := H
    have p625 : 0 ≤ (x6_1 : Int) := of_decide_eq_true (by first | (with_reducible assumption) | assumption)
    have q625 : x6_1 < (l0.length : Int) := of_decide_eq_true (by first | (with_reducible assumption) | assumption)
    obtain ⟨ad625, e625, hx625_0⟩ := Kd.at_int HR0.out x6_1 p625 q625
    cases e625
    replace p625 := eq_true p625
    replace q625 := eq_true q625
    have p626 : 0 ≤ (x6_1 : Int) := of_decide_eq_true (by first | (with_reducible assumption) | assumption)
    have q626 : x6_1 < (l1.length : Int) := of_decide_eq_true (by first | (with_reducible assumption) | assumption)
    obtain ⟨ad626, e626, hx626_0⟩ := Kd.at_int HR1.out x6_1 p626 q626
    cases e626
    replace p626 := eq_true p626
    replace q626 := eq_true q626
    go_wp2
    repeat (go_quiet (fail); try go_wp2)
    go_ret2
    exact ⟨by first | rfl | (simp; done) | (simp [*]; done), by repeat (first | exact Drawn0.refl _ | apply Drawn0.step)⟩
   rw [if_pos c3] at H
   have c3b0 : decide (x7_1 < (l0.length : Int)) = true := decide_eq_true c3
   clear c3
   by_cases c4 : 0 ≤ x7_1
   rotate_left
   ·rw [if_neg c4] at H
    exact absurd H (by simp)
   rw [if_pos c4] at H
   have c4b0 : decide (0 ≤ x7_1) = true := decide_eq_true c4
   clear c4
   by_cases c5 : x7_1 < (l1.length : Int)
   rotate_left
   ·rw [if_neg c5] at H
    exact absurd H (by simp)
   rw [if_pos c5] at H
   have c5b0 : decide (x7_1 < (l1.length : Int)) = true := decide_eq_true c5
   clear c5
   by_cases c6 : 0 ≤ x6_1
   rotate_left
   ·rw [if_neg c6] at H
    exact absurd H (by simp)
   rw [if_pos c6] at H
   have c6b0 : decide (0 ≤ x6_1) = true := decide_eq_true c6
   clear c6
   by_cases c7 : x6_1 < (l0.length : Int)
   rotate_left
   ·rw [if_neg c7] at H
    exact absurd H (by simp)
   rw [if_pos c7] at H
   have c7b0 : decide (x6_1 < (l0.length : Int)) = true := decide_eq_true c7
   clear c7
   by_cases c8 : x6_1 < (l1.length : Int)
   rotate_left
   ·rw [if_neg c8] at H
    exact absurd H (by simp)
   rw [if_pos c8] at H
   have c8b0 : decide (x6_1 < (l1.length : Int)) = true := decide_eq_true c8
   clear c8
   by_cases c9 : (wrap64 ((rd l0 x7_1) - (rd l1 x7_1))) > (wrap64 ((rd l0 x6_1) - (rd l1 x6_1)))
   ·rw [if_pos c9] at H
    have c9b0 : decide ((wrap64 ((rd l0 x6_1) - (rd l1 x6_1))) < (wrap64 ((rd l0 x7_1) - (rd l1 x7_1)))) = true := decide_eq_true c9
    clear c9
    have H' := Aside0.mk H
    clear H
    have p621 : 0 ≤ (x7_1 : Int) := of_decide_eq_true (by first | (with_reducible assumption) | assumption)
    have q621 : x7_1 < (l0.length : Int) := of_decide_eq_true (by first | (with_reducible assumption) | assumption)
    obtain ⟨ad621, e621, hx621_0⟩ := Kd.at_int HR0.out x7_1 p621 q621
    cases e621
    replace p621 := eq_true p621
    replace q621 := eq_true q621
    have p622 : 0 ≤ (x7_1 : Int) := of_decide_eq_true (by first | (with_reducible assumption) | assumption)
    have q622 : x7_1 < (l1.length : Int) := of_decide_eq_true (by first | (with_reducible assumption) | assumption)
    obtain ⟨ad622, e622, hx622_0⟩ := Kd.at_int HR1.out x7_1 p622 q622
    cases e622
    replace p622 := eq_true p622
    replace q622 := eq_true q622
    have p623 : 0 ≤ (x6_1 : Int) := of_decide_eq_true (by first | (with_reducible assumption) | assumption)
    have q623 : x6_1 < (l0.length : Int) := of_decide_eq_true (by first | (with_reducible assumption) | assumption)
    obtain ⟨ad623, e623, hx623_0⟩ := Kd.at_int HR0.out x6_1 p623 q623
    obtain rfl : ad621 = ad623 := (by injection e623)
    replace p623 := eq_true p623
    replace q623 := eq_true q623
    have p624 : 0 ≤ (x6_1 : Int) := of_decide_eq_true (by first | (with_reducible assumption) | assumption)
    have q624 : x6_1 < (l1.length : Int) := of_decide_eq_true (by first | (with_reducible assumption) | assumption)
    obtain ⟨ad624, e624, hx624_0⟩ := Kd.at_int HR1.out x6_1 p624 q624
    obtain rfl : ad622 = ad624 := (by injection e624)
    replace p624 := eq_true p624
    replace q624 := eq_true q624
    go_wp2
    repeat (go_quiet (fail); try go_wp2)
    go_roundg k1
    case measure => have := HK1.out; omega
    case rel => exact ⟨(x7_1), (wrap64 (x7_1 + 1)), (by first | rfl | (simp; done) | (simp [*]; done)), (by first | rfl | (simp; done) | (simp [*]; done)), H', ⟨by have := HK1.out; omega⟩, by repeat (first | exact Drawn0.refl _ | apply Drawn0.step)⟩
   rw [if_neg c9] at H
   have c9b0 : decide ((wrap64 ((rd l0 x6_1) - (rd l1 x6_1))) < (wrap64 ((rd l0 x7_1) - (rd l1 x7_1)))) = false := decide_eq_false c9
   clear c9
   have H' := Aside0.mk H
   clear H
   have p621 : 0 ≤ (x7_1 : Int) := of_decide_eq_true (by first | (with_reducible assumption) | assumption)
   have q621 : x7_1 < (l0.length : Int) := of_decide_eq_true (by first | (with_reducible assumption) | assumption)
   obtain ⟨ad621, e621, hx621_0⟩ := Kd.at_int HR0.out x7_1 p621 q621
   cases e621
   replace p621 := eq_true p621
   replace q621 := eq_true q621
   have p622 : 0 ≤ (x7_1 : Int) := of_decide_eq_true (by first | (with_reducible assumption) | assumption)
   have q622 : x7_1 < (l1.length : Int) := of_decide_eq_true (by first | (with_reducible assumption) | assumption)
   obtain ⟨ad622, e622, hx622_0⟩ := Kd.at_int HR1.out x7_1 p622 q622
   cases e622
   replace p622 := eq_true p622
   replace q622 := eq_true q622
   have p623 : 0 ≤ (x6_1 : Int) := of_decide_eq_true (by first | (with_reducible assumption) | assumption)
   have q623 : x6_1 < (l0.length : Int) := of_decide_eq_true (by first | (with_reducible assumption) | assumption)
   obtain ⟨ad623, e623, hx623_0⟩ := Kd.at_int HR0.out x6_1 p623 q623
   obtain rfl : ad621 = ad623 := (by injection e623)
   replace p623 := eq_true p623
   replace q623 := eq_true q623
   have p624 : 0 ≤ (x6_1 : Int) := of_decide_eq_true (by first | (with_reducible assumption) | assumption)
   have q624 : x6_1 < (l1.length : Int) := of_decide_eq_true (by first | (with_reducible assumption) | assumption)
   obtain ⟨ad624, e624, hx624_0⟩ := Kd.at_int HR1.out x6_1 p624 q624
   obtain rfl : ad622 = ad624 := (by injection e624)
   replace p624 := eq_true p624
   replace q624 := eq_true q624
   go_wp2
   repeat (go_quiet (fail); try go_wp2)
   go_roundg k1
   case measure => have := HK1.out; omega
   case rel => exact ⟨(x6_1), (wrap64 (x7_1 + 1)), (by first | rfl | (simp; done) | (simp [*]; done)), (by first | rfl | (simp; done) | (simp [*]; done)), H', ⟨by have := HK1.out; omega⟩, by repeat (first | exact Drawn0.refl _ | apply Drawn0.step)⟩

/-! ### spec_l11Values: function 47 -/
def spec_l11Values.l0 : Nat → List (List (S61)) → List Int → Int → List Int → Int → Option (List Int)
 | 0, _, _, _, _, _ => none
 | k + 1, x0, x1, x2, x7, x8 => if x8 < (x0.length : Int) then (if 0 ≤ x8 then ((spec_l2Value.f k (rd_L4 x0 x8) x1 x2).bind fun t631 => (if x7.length < 17592186044416 then (spec_l11Values.l0 k x0 x1 x2 (x7 ++ [t631]) (wrap64 (x8 + 1))) else (none))) else (none)) else (some x7)
def spec_l11Values.f (k : Nat) (l0 : List (List (S61))) (l1 : List Int) (a2 : Int) : Option (List Int) := spec_l11Values.l0 k l0 l1 a2 (([] : List Int)) 0
theorem spec_l11Values.mono_l : ∀ k, (∀ y0 y1 y2 y3 y4, LeO (spec_l11Values.l0 k y0 y1 y2 y3 y4) (spec_l11Values.l0 (k + 1) y0 y1 y2 y3 y4))
 | 0 => fun _ _ _ _ _ r h => by simp [spec_l11Values.l0] at h
 | k + 1 => by
  have ih0 := spec_l11Values.mono_l k
  ·intro y0 y1 y2 y3 y4
   unfold spec_l11Values.l0
   repeat' first
   | (with_reducible exact ih0 _ _ _ _ _)
   | (with_reducible exact spec_l2Value.mono _ _ _ _)
   | (with_reducible exact LeO.refl _)
   | (with_reducible exact LeO.none _)
   | (with_reducible refine LeO.ite ?_ ?_)
   | (with_reducible refine LeO.bind ?_ (fun _ => ?_))
   | exact ih0 _ _ _ _ _
   | exact spec_l2Value.mono _ _ _ _
   | exact LeO.none _
   | refine LeO.ite ?_ ?_
   | refine LeO.bind ?_ (fun _ => ?_)
theorem spec_l11Values.mono : ∀ a0 a1 a2 k, LeO (spec_l11Values.f k a0 a1 a2) (spec_l11Values.f (k + 1) a0 a1 a2) := by
 intro a0 a1 a2 k
 have ih0 := spec_l11Values.mono_l k
 unfold spec_l11Values.f
 repeat' first
   | (with_reducible exact ih0 _ _ _ _ _)
   | (with_reducible exact spec_l2Value.mono _ _ _ _)
   | (with_reducible exact LeO.refl _)
   | (with_reducible exact LeO.none _)
   | (with_reducible refine LeO.ite ?_ ?_)
   | (with_reducible refine LeO.bind ?_ (fun _ => ?_))
   | exact ih0 _ _ _ _ _
   | exact spec_l2Value.mono _ _ _ _
   | exact LeO.none _
   | refine LeO.ite ?_ ?_
   | refine LeO.bind ?_ (fun _ => ?_)
set_option maxHeartbeats 8000000 in
set_option maxRecDepth 100000 in
theorem spec_l11Values.calls (k : Nat) (A0 : Option Addr) (c0 : Nat) (l0 : List (List (S61))) (A1 : Option Addr) (c1 : Nat) (l1 : List Int) (a2 : Int) (r : List Int) (w : World) (hr0 : Kd.C (Kd.slice 61 k61) w A0 l0.length l0) (hc0 : l0.length ≤ c0) (hr1 : Kd.C (Kd.int .i64) w A1 l1.length l1) (hc1 : l1.length ≤ c1) (h : spec_l11Values.f k l0 l1 a2 = some r) :
  Calls Try.prog 47 #[.slice A0 l0.length c0, .slice A1 l1.length c1, .int .i64 a2] w fun e w' => ∃ v0_ : Value, e = .returned (v0_) ∧ Kd.R (Kd.int .i64) 3 w' w.heap.size (fun _ => True) v0_ r ∧ Below w.heap.size w w' := by
 have HR0 := Aside0.mk hr0
 have HC0 := Aside0.mk hc0
 clear hr0 hc0
 have HR1 := Aside0.mk hr1
 have HC1 := Aside0.mk hc1
 clear hr1 hc1
 have HB := Aside0.mk (Below.refl w.heap.size w)
 have H : (spec_l11Values.l0 k l0 l1 a2 (([] : List Int)) 0) = some r := h
 clear h
 obtain ⟨y627, hy627⟩ : ∃ y_ : List Int, y_ = (([] : List Int)) := ⟨_, rfl⟩
 replace H : (spec_l11Values.l0 k l0 l1 a2 y627 0) = some r := by first | (rw [hy627]; with_reducible exact H) | (have H2_ := (Option.bind_some _ _).symm.trans H; rw [hy627]; with_reducible exact H2_) | (have H2_ := (Option.bind_some _ _).symm.trans H; with_reducible exact H2_) | with_reducible exact H | (rw [hy627]; exact H) | exact H
 have Ny627 := Aside0.mk hy627
 clear hy627
 have H' := Aside0.mk H
 clear H
 go_enter Try.func47, Try.ntmps47
 go_wp2_with (first | ((with_reducible refine gate_dst (N := 9) rfl ?_); refine Kd.R_lit (Kd.int .i64) _ 3 ?hg (N := 9) ?hd (xs := ([] : List Int)) (inner := []) (ok := fun _ => True) (okp := fun _ => True) ?hr ?hp (fun _ hk => hk) trivial (Below.refl _ _) (Nat.le_refl _) (by simp) ?_; (case hd => rfl); (case hg => rfl); (case hr => first | (go_simp; done) | (go_simp; rfl)); (case hp => exact (Reps.none _ _)); intro v628 w4 ho5 hb hg_ hnew_; clear hg_ hnew_; (first | rw [← Ny627.out] at ho5 | (simp only [Int.reduceToNat] at ho5; rw [← Ny627.out] at ho5)); have n0_ := Aside0.mk (Kd.R_lower ho5 (below_size (bw HB.out))); have n1_ := Aside0.mk (below_step (bw HB.out) hb); have HO629 := n0_; replace HB := n1_; clear n0_ n1_; clear hb ho5))
 go_loopg [7, 8] k (fun kq v7 v8 w' => ∃ (x7_1 : List Int) (x8_1 : Int), v8 = .int .i64 x8_1 ∧ Aside0 (spec_l11Values.l0 kq l0 l1 a2 x7_1 x8_1 = some r) ∧ Aside0 (kq ≤ k) ∧ Aside0 (Kd.R (Kd.int .i64) 3 w' w.heap.size (fun _ => True) v7 x7_1) ∧ Aside0 (Below w.heap.size w w'))
 case atStart => exact ⟨(y627), (0), (by first | rfl | (simp; done) | (simp [*]; done)), H', ⟨Nat.le_refl _⟩, ⟨bR HO629.out⟩, ⟨bw HB.out⟩⟩
 case round =>
  clear H'
  try clear c1
  try clear p2
  try clear c4
  obtain ⟨x7_1, x8_1, rfl, HA, HK1, HO_7, HB⟩ := hrel
  cases gk with
  | zero => exact absurd HA.out (by simp [spec_l11Values.l0])
  | succ k1 =>
   have H := HA.out
   clear HA
   simp only [spec_l11Values.l0] at H
   by_cases c6 : x8_1 < (l0.length : Int)
   rotate_left
   ·rw [if_neg c6] at H
    have c6b0 : decide (x8_1 < (l0.length : Int)) = false := decide_eq_false c6
    clear c6
    obtain rfl := Option.some.inj H
    go_wp2
    go_ret
    exact ⟨_, by first | rfl | (simp [errW_none, errW_some] <;> rfl) | (simp [*, errW_none, errW_some] <;> rfl), by (with_reducible repeat (first | apply Kd.R_alloc | apply Kd.R_drewN | apply Kd.R_drew)); exact HO_7.out, bw HB.out⟩
   rw [if_pos c6] at H
   have c6b0 : decide (x8_1 < (l0.length : Int)) = true := decide_eq_true c6
   clear c6
   by_cases c7 : 0 ≤ x8_1
   rotate_left
   ·rw [if_neg c7] at H
    exact absurd H (by simp)
   rw [if_pos c7] at H
   have c7b0 : decide (0 ≤ x8_1) = true := decide_eq_true c7
   clear c7
   replace H := Option.bind_eq_some_iff.mp H
   obtain ⟨t631, A80, H⟩ := H
   replace H : (if x7_1.length < 17592186044416 then (spec_l11Values.l0 k1 l0 l1 a2 (x7_1 ++ [t631]) (wrap64 (x8_1 + 1))) else (none)) = some r := H
   have A8 := Aside0.mk A80
   clear A80
   by_cases c9 : x7_1.length < 17592186044416
   rotate_left
   ·rw [if_neg c9] at H
    exact absurd H (by simp)
   rw [if_pos c9] at H
   have LMc9 := Aside0.mk c9
   clear c9
   obtain ⟨y632, hy632⟩ : ∃ y_ : List Int, y_ = (x7_1 ++ [t631]) := ⟨_, rfl⟩
   replace H : (spec_l11Values.l0 k1 l0 l1 a2 y632 (wrap64 (x8_1 + 1))) = some r := by first | (rw [hy632]; with_reducible exact H) | (have H2_ := (Option.bind_some _ _).symm.trans H; rw [hy632]; with_reducible exact H2_) | (have H2_ := (Option.bind_some _ _).symm.trans H; with_reducible exact H2_) | with_reducible exact H | (rw [hy632]; exact H) | exact H
   have Ny632 := Aside0.mk hy632
   clear hy632
   have H' := Aside0.mk H
   clear H
   have p630 : 0 ≤ (x8_1 : Int) := of_decide_eq_true (by first | (with_reducible assumption) | assumption)
   have q630 : x8_1 < (l0.length : Int) := of_decide_eq_true (by first | (with_reducible assumption) | assumption)
   obtain ⟨ad630, A630_0, c630_0, e630, hx630_0, hl630_0, hi630_0⟩ := at_L4 HR0.out x8_1 p630 q630
   cases e630
   replace hx630_0 := (HB.out.cell (World.block_lt_of_cell? w _ hx630_0)).trans hx630_0
   have HR630_0 := Aside0.mk hi630_0
   have HC630_0 := Aside0.mk hl630_0
   clear hi630_0 hl630_0
   replace p630 := eq_true p630
   replace q630 := eq_true q630
   go_wp2_with (first | ((with_reducible refine gate_callee (f := 29) rfl ?_); refine goesL_ (some 23) rfl rfl Try.func29 (by kernel_rfl) rfl #[.slice A630_0 (rd_L4 l0 x8_1).length c630_0, .slice A1 l1.length c1, .int .i64 a2] rfl (by (try simp only [mA_]); first | done | rfl | (simp only [List.length_drop, List.length_take]; rfl)) ?_; (with_reducible refine (spec_l2Value.calls k1 _ _ (rd_L4 l0 x8_1) _ _ l1 a2 t631 _ ?side1 ?side2 ?side3 ?side4 A8.out).mono ?_); (case side1 => first | exact bC HR630_0.out HB.out | exact Kd.C_below HR630_0.out HB.out); (case side2 => exact HC630_0.out); (case side3 => first | exact bC HR1.out HB.out | exact Kd.C_below HR1.out HB.out); (case side4 => exact HC1.out); rintro e w10 ⟨rfl, hb⟩; refine ⟨_, rfl, ?_⟩; have n0_ := Aside0.mk (Kd.R_below (bR HO_7.out) hb); have n1_ := Aside0.mk (below_step (bw HB.out) hb); replace HO_7 := n0_; replace HB := n1_; clear n0_ n1_; (try clear hb); (try clear hb2); (try clear hk); (try clear hi)) | ((with_reducible refine gate_builtin (b := .append) (xs := #[.tmp 16, .tmp 24]) rfl ?_); at_builtin; refine Kd.R_append (Kd.int .i64) (w0 := w) w.heap.size rfl (.tmp 16) (.tmp 24) 23 3 (.int .i64 0) 8 rfl Try.underlying23 info3 rfl (by decide) (by omega) u7 x7_1 t631 [.int .i64 t631] (fun _ => True) (fun _ => False) rfl rfl ?aP (fun _ hk => hk.elim) ?aF ?aO ?aB ?aS ?aL ?_; (case aP => exact rfl); (case aB => exact (bw HB.out)); (case aF => exact (fun _ _ => trivial)); (case aO => exact (bR HO_7.out)); (case aS => exact (below_size (bw HB.out))); (case aL => have := LMc9.out; omega); intro v633 w11 ho hb hg hat; rw [← Ny632.out] at ho; have n0_ := Aside0.mk (hb); have n1_ := Aside0.mk (ho); clear HO_7; replace HB := n0_; have HO634 := n1_; clear n0_ n1_; clear ho hb hg hat))
   go_roundg k1
   case measure => have := HK1.out; omega
   case rel => exact ⟨(y632), (wrap64 (x8_1 + 1)), (by first | rfl | (simp; done) | (simp [*]; done)), H', ⟨by have := HK1.out; omega⟩, ⟨bR HO634.out⟩, ⟨bw HB.out⟩⟩

/-! ### spec_l11Bests: function 48 -/
def spec_l11Bests.l0 : Nat → List (List (S61)) → Int → List Int → Int → Option (List Int)
 | 0, _, _, _, _ => none
 | k + 1, x0, x1, x5, x6 => if x6 < (x0.length : Int) then (if 0 ≤ x6 then ((spec_l2Best.f k (rd_L4 x0 x6) x1).bind fun bt639 => (if x5.length < 17592186044416 then (spec_l11Bests.l0 k x0 x1 (x5 ++ [bt639.2]) (wrap64 (x6 + 1))) else (none))) else (none)) else (some x5)
def spec_l11Bests.f (k : Nat) (l0 : List (List (S61))) (a1 : Int) : Option (List Int) := spec_l11Bests.l0 k l0 a1 (([] : List Int)) 0
theorem spec_l11Bests.mono_l : ∀ k, (∀ y0 y1 y2 y3, LeO (spec_l11Bests.l0 k y0 y1 y2 y3) (spec_l11Bests.l0 (k + 1) y0 y1 y2 y3))
 | 0 => fun _ _ _ _ r h => by simp [spec_l11Bests.l0] at h
 | k + 1 => by
  have ih0 := spec_l11Bests.mono_l k
  ·intro y0 y1 y2 y3
   unfold spec_l11Bests.l0
   repeat' first
   | (with_reducible exact ih0 _ _ _ _)
   | (with_reducible exact spec_l2Best.mono _ _ _)
   | (with_reducible exact LeO.refl _)
   | (with_reducible exact LeO.none _)
   | (with_reducible refine LeO.ite ?_ ?_)
   | (with_reducible refine LeO.bind ?_ (fun _ => ?_))
   | exact ih0 _ _ _ _
   | exact spec_l2Best.mono _ _ _
   | exact LeO.none _
   | refine LeO.ite ?_ ?_
   | refine LeO.bind ?_ (fun _ => ?_)
theorem spec_l11Bests.mono : ∀ a0 a1 k, LeO (spec_l11Bests.f k a0 a1) (spec_l11Bests.f (k + 1) a0 a1) := by
 intro a0 a1 k
 have ih0 := spec_l11Bests.mono_l k
 unfold spec_l11Bests.f
 repeat' first
   | (with_reducible exact ih0 _ _ _ _)
   | (with_reducible exact spec_l2Best.mono _ _ _)
   | (with_reducible exact LeO.refl _)
   | (with_reducible exact LeO.none _)
   | (with_reducible refine LeO.ite ?_ ?_)
   | (with_reducible refine LeO.bind ?_ (fun _ => ?_))
   | exact ih0 _ _ _ _
   | exact spec_l2Best.mono _ _ _
   | exact LeO.none _
   | refine LeO.ite ?_ ?_
   | refine LeO.bind ?_ (fun _ => ?_)
set_option maxHeartbeats 8000000 in
set_option maxRecDepth 100000 in
theorem spec_l11Bests.calls (k : Nat) (A0 : Option Addr) (c0 : Nat) (l0 : List (List (S61))) (a1 : Int) (r : List Int) (w : World) (hr0 : Kd.C (Kd.slice 61 k61) w A0 l0.length l0) (hc0 : l0.length ≤ c0) (h : spec_l11Bests.f k l0 a1 = some r) :
  Calls Try.prog 48 #[.slice A0 l0.length c0, .int .i64 a1] w fun e w' => ∃ v0_ : Value, e = .returned (v0_) ∧ Kd.R (Kd.int .i64) 3 w' w.heap.size (fun _ => True) v0_ r ∧ Below w.heap.size w w' := by
 have HR0 := Aside0.mk hr0
 have HC0 := Aside0.mk hc0
 clear hr0 hc0
 have HB := Aside0.mk (Below.refl w.heap.size w)
 have H : (spec_l11Bests.l0 k l0 a1 (([] : List Int)) 0) = some r := h
 clear h
 obtain ⟨y635, hy635⟩ : ∃ y_ : List Int, y_ = (([] : List Int)) := ⟨_, rfl⟩
 replace H : (spec_l11Bests.l0 k l0 a1 y635 0) = some r := by first | (rw [hy635]; with_reducible exact H) | (have H2_ := (Option.bind_some _ _).symm.trans H; rw [hy635]; with_reducible exact H2_) | (have H2_ := (Option.bind_some _ _).symm.trans H; with_reducible exact H2_) | with_reducible exact H | (rw [hy635]; exact H) | exact H
 have Ny635 := Aside0.mk hy635
 clear hy635
 have H' := Aside0.mk H
 clear H
 go_enter Try.func48, Try.ntmps48
 go_wp2_with (first | ((with_reducible refine gate_dst (N := 9) rfl ?_); refine Kd.R_lit (Kd.int .i64) _ 3 ?hg (N := 9) ?hd (xs := ([] : List Int)) (inner := []) (ok := fun _ => True) (okp := fun _ => True) ?hr ?hp (fun _ hk => hk) trivial (Below.refl _ _) (Nat.le_refl _) (by simp) ?_; (case hd => rfl); (case hg => rfl); (case hr => first | (go_simp; done) | (go_simp; rfl)); (case hp => exact (Reps.none _ _)); intro v636 w3 ho4 hb hg_ hnew_; clear hg_ hnew_; (first | rw [← Ny635.out] at ho4 | (simp only [Int.reduceToNat] at ho4; rw [← Ny635.out] at ho4)); have n0_ := Aside0.mk (Kd.R_lower ho4 (below_size (bw HB.out))); have n1_ := Aside0.mk (below_step (bw HB.out) hb); have HO637 := n0_; replace HB := n1_; clear n0_ n1_; clear hb ho4))
 go_loopg [5, 6] k (fun kq v5 v6 w' => ∃ (x5_1 : List Int) (x6_1 : Int), v6 = .int .i64 x6_1 ∧ Aside0 (spec_l11Bests.l0 kq l0 a1 x5_1 x6_1 = some r) ∧ Aside0 (kq ≤ k) ∧ Aside0 (Kd.R (Kd.int .i64) 3 w' w.heap.size (fun _ => True) v5 x5_1) ∧ Aside0 (Below w.heap.size w w'))
 case atStart => exact ⟨(y635), (0), (by first | rfl | (simp; done) | (simp [*]; done)), H', ⟨Nat.le_refl _⟩, ⟨bR HO637.out⟩, ⟨bw HB.out⟩⟩
 case round =>
  clear H'
  try clear p2
  try clear c4
  obtain ⟨x5_1, x6_1, rfl, HA, HK1, HO_5, HB⟩ := hrel
  cases gk with
  | zero => exact absurd HA.out (by simp [spec_l11Bests.l0])
  | succ k1 =>
   have H := HA.out
   clear HA
   simp only [spec_l11Bests.l0] at H
   by_cases c5 : x6_1 < (l0.length : Int)
   rotate_left
   ·rw [if_neg c5] at H
    have c5b0 : decide (x6_1 < (l0.length : Int)) = false := decide_eq_false c5
    clear c5
    obtain rfl := Option.some.inj H
    go_wp2
    go_ret
    exact ⟨_, by first | rfl | (simp [errW_none, errW_some] <;> rfl) | (simp [*, errW_none, errW_some] <;> rfl), by (with_reducible repeat (first | apply Kd.R_alloc | apply Kd.R_drewN | apply Kd.R_drew)); exact HO_5.out, bw HB.out⟩
   rw [if_pos c5] at H
   have c5b0 : decide (x6_1 < (l0.length : Int)) = true := decide_eq_true c5
   clear c5
   by_cases c6 : 0 ≤ x6_1
   rotate_left
   ·rw [if_neg c6] at H
    exact absurd H (by simp)
   rw [if_pos c6] at H
   have c6b0 : decide (0 ≤ x6_1) = true := decide_eq_true c6
   clear c6
   replace H := Option.bind_eq_some_iff.mp H
   obtain ⟨⟨t639, t642⟩, A70, H⟩ := H
   replace H : (if x5_1.length < 17592186044416 then (spec_l11Bests.l0 k1 l0 a1 (x5_1 ++ [t642]) (wrap64 (x6_1 + 1))) else (none)) = some r := H
   have A7 := Aside0.mk A70
   clear A70
   by_cases c8 : x5_1.length < 17592186044416
   rotate_left
   ·rw [if_neg c8] at H
    exact absurd H (by simp)
   rw [if_pos c8] at H
   have LMc8 := Aside0.mk c8
   clear c8
   obtain ⟨y643, hy643⟩ : ∃ y_ : List Int, y_ = (x5_1 ++ [t642]) := ⟨_, rfl⟩
   replace H : (spec_l11Bests.l0 k1 l0 a1 y643 (wrap64 (x6_1 + 1))) = some r := by first | (rw [hy643]; with_reducible exact H) | (have H2_ := (Option.bind_some _ _).symm.trans H; rw [hy643]; with_reducible exact H2_) | (have H2_ := (Option.bind_some _ _).symm.trans H; with_reducible exact H2_) | with_reducible exact H | (rw [hy643]; exact H) | exact H
   have Ny643 := Aside0.mk hy643
   clear hy643
   have H' := Aside0.mk H
   clear H
   have p638 : 0 ≤ (x6_1 : Int) := of_decide_eq_true (by first | (with_reducible assumption) | assumption)
   have q638 : x6_1 < (l0.length : Int) := of_decide_eq_true (by first | (with_reducible assumption) | assumption)
   obtain ⟨ad638, A638_0, c638_0, e638, hx638_0, hl638_0, hi638_0⟩ := at_L4 HR0.out x6_1 p638 q638
   cases e638
   replace hx638_0 := (HB.out.cell (World.block_lt_of_cell? w _ hx638_0)).trans hx638_0
   have HR638_0 := Aside0.mk hi638_0
   have HC638_0 := Aside0.mk hl638_0
   clear hi638_0 hl638_0
   replace p638 := eq_true p638
   replace q638 := eq_true q638
   go_wp2_with (first | ((with_reducible refine gate_callee (f := 28) rfl ?_); refine goesL_ (some 22) rfl rfl Try.func28 (by kernel_rfl) rfl #[.slice A638_0 (rd_L4 l0 x6_1).length c638_0, .int .i64 a1] rfl (by (try simp only [mA_]); first | done | rfl | (simp only [List.length_drop, List.length_take]; rfl)) ?_; (with_reducible refine (spec_l2Best.calls k1 _ _ (rd_L4 l0 x6_1) a1 t639 t642 _ ?side1 ?side2 A7.out).mono ?_); (case side1 => first | exact bC HR638_0.out HB.out | exact Kd.C_below HR638_0.out HB.out); (case side2 => exact HC638_0.out); rintro e w9 ⟨v640, rfl, ho0, hb⟩; refine ⟨_, rfl, ?_⟩; have n0_ := Aside0.mk (Kd.R_below (bR HO_5.out) hb); have n1_ := Aside0.mk (Kd.V_lower (Kd.V_mono (ok' := fun k_ => some k_ ≠ (u5 : Value).ownBlock) ho0 (fun k_ hk_ => (Kd.fresh' (Kd.R_lt (bR HO_5.out)) k_ hk_))) (below_size (bw HB.out))); have n2_ := Aside0.mk (below_step (bw HB.out) hb); replace HO_5 := n0_; have HO641 := n1_; replace HB := n2_; clear n0_ n1_ n2_; (try clear hb); (try clear hb2); (try clear hk); (try clear hi); (try clear ho0)) | ((with_reducible refine gate_builtin (b := .append) (xs := #[.tmp 25, .tmp 27]) rfl ?_); at_builtin; refine Kd.R_append (Kd.int .i64) (w0 := w) w.heap.size rfl (.tmp 25) (.tmp 27) 23 3 (.int .i64 0) 8 rfl Try.underlying23 info3 rfl (by decide) (by omega) u5 x5_1 t642 [.int .i64 t642] (fun _ => True) (fun _ => False) rfl rfl ?aP (fun _ hk => hk.elim) ?aF ?aO ?aB ?aS ?aL ?_; (case aP => exact rfl); (case aB => exact (bw HB.out)); (case aF => exact (fun _ _ => trivial)); (case aO => exact (bR HO_5.out)); (case aS => exact (below_size (bw HB.out))); (case aL => have := LMc8.out; omega); intro v644 w10 ho hb hg hat; rw [← Ny643.out] at ho; have n0_ := Aside0.mk (Kd.V_afterv (ok := (fun _ => True)) (by (with_reducible repeat (first | apply Kd.V_alloc | apply Kd.V_drewN | apply Kd.V_drew)); exact Kd.V_mono HO641.out (fun _ hk => ⟨trivial, hk⟩)) hg hat); have n1_ := Aside0.mk (hb); have n2_ := Aside0.mk (ho); clear HO_5; replace HO641 := n0_; replace HB := n1_; have HO645 := n2_; clear n0_ n1_ n2_; clear ho hb hg hat))
   go_roundg k1
   case measure => have := HK1.out; omega
   case rel => exact ⟨(y643), (wrap64 (x6_1 + 1)), (by first | rfl | (simp; done) | (simp [*]; done)), H', ⟨by have := HK1.out; omega⟩, ⟨bR HO645.out⟩, ⟨bw HB.out⟩⟩

/-! ### spec_GreatestRegret: function 22 -/
def spec_GreatestRegret.f (k : Nat) (l0 : List (List (S61))) (l1 : List Int) (a2 : Int) : Option (Int × Int × Bool) := (spec_l11Fits.f k l0 l1 a2).bind fun t646 => (if t646 = true then ((spec_l11Values.f k l0 l1 a2).bind fun t647 => ((spec_l11Bests.f k l0 a2).bind fun t650 => ((spec_l11Worst.f k t647 t650).bind fun bt653 => (some (bt653.1, bt653.2, true))))) else (some (0, 0, false)))
theorem spec_GreatestRegret.mono : ∀ a0 a1 a2 k, LeO (spec_GreatestRegret.f k a0 a1 a2) (spec_GreatestRegret.f (k + 1) a0 a1 a2) := by
 intro a0 a1 a2 k
 unfold spec_GreatestRegret.f
 repeat' first
   | (with_reducible exact spec_l11Bests.mono _ _ _)
   | (with_reducible exact spec_l11Fits.mono _ _ _ _)
   | (with_reducible exact spec_l11Values.mono _ _ _ _)
   | (with_reducible exact spec_l11Worst.mono _ _ _)
   | (with_reducible exact LeO.refl _)
   | (with_reducible exact LeO.none _)
   | (with_reducible refine LeO.ite ?_ ?_)
   | (with_reducible refine LeO.bind ?_ (fun _ => ?_))
   | exact spec_l11Bests.mono _ _ _
   | exact spec_l11Fits.mono _ _ _ _
   | exact spec_l11Values.mono _ _ _ _
   | exact spec_l11Worst.mono _ _ _
   | exact LeO.none _
   | refine LeO.ite ?_ ?_
   | refine LeO.bind ?_ (fun _ => ?_)
set_option maxHeartbeats 8000000 in
set_option maxRecDepth 100000 in
theorem spec_GreatestRegret.calls (k : Nat) (A0 : Option Addr) (c0 : Nat) (l0 : List (List (S61))) (A1 : Option Addr) (c1 : Nat) (l1 : List Int) (a2 : Int) (r1 : Int) (r2 : Int) (r3 : Bool) (w : World) (hr0 : Kd.C (Kd.slice 61 k61) w A0 l0.length l0) (hc0 : l0.length ≤ c0) (hr1 : Kd.C (Kd.int .i64) w A1 l1.length l1) (hc1 : l1.length ≤ c1) (h : spec_GreatestRegret.f k l0 l1 a2 = some (r1, r2, r3)) :
  Calls Try.prog 22 #[.slice A0 l0.length c0, .slice A1 l1.length c1, .int .i64 a2] w fun e w' => e = .returned (.tuple #[.int .i64 r1, .int .i64 r2, .bool r3]) ∧ Below w.heap.size w w' := by
 have HR0 := Aside0.mk hr0
 have HC0 := Aside0.mk hc0
 clear hr0 hc0
 have HR1 := Aside0.mk hr1
 have HC1 := Aside0.mk hc1
 clear hr1 hc1
 have HB := Aside0.mk (Below.refl w.heap.size w)
 have H : ((spec_l11Fits.f k l0 l1 a2).bind fun t646 => (if t646 = true then ((spec_l11Values.f k l0 l1 a2).bind fun t647 => ((spec_l11Bests.f k l0 a2).bind fun t650 => ((spec_l11Worst.f k t647 t650).bind fun bt653 => (some (bt653.1, bt653.2, true))))) else (some (0, 0, false)))) = some (r1, r2, r3) := h
 clear h
 replace H := Option.bind_eq_some_iff.mp H
 obtain ⟨t646, A40, H⟩ := H
 replace H : (if t646 = true then ((spec_l11Values.f k l0 l1 a2).bind fun t647 => ((spec_l11Bests.f k l0 a2).bind fun t650 => ((spec_l11Worst.f k t647 t650).bind fun bt653 => (some (bt653.1, bt653.2, true))))) else (some (0, 0, false))) = some (r1, r2, r3) := H
 have A4 := Aside0.mk A40
 clear A40
 by_cases c5 : t646 = true
 rotate_left
 ·replace c5 := Bool.eq_false_iff.mpr c5
  subst c5
  have H1 : (some (0, 0, false)) = some (r1, r2, r3) := by rw [if_neg (show ¬ (false = true) by decide)] at H; exact H
  clear H
  have H := H1
  clear H1
  simp only [Option.some.injEq, Prod.mk.injEq] at H
  obtain ⟨rfl, rfl, rfl⟩ := H
  go_enter Try.func22, Try.ntmps22
  go_wp2_with (first | ((with_reducible refine gate_callee (f := 45) rfl ?_); refine goesL_ (some 14) rfl rfl Try.func45 (by kernel_rfl) rfl #[.slice A0 l0.length c0, .slice A1 l1.length c1, .int .i64 a2] rfl (by (try simp only [mA_]); first | done | rfl | (simp only [List.length_drop, List.length_take]; rfl)) ?_; (with_reducible refine (spec_l11Fits.calls k _ _ l0 _ _ l1 a2 false _ ?side1 ?side2 ?side3 ?side4 A4.out).mono ?_); (case side1 => repeat (first | exact HR0.out | (with_reducible refine Kd.C_alloc ?_ _) | (with_reducible refine Kd.C_drewN ?_ _) | (with_reducible refine Kd.C_drew ?_))); (case side2 => exact HC0.out); (case side3 => repeat (first | exact HR1.out | (with_reducible refine Kd.C_alloc ?_ _) | (with_reducible refine Kd.C_drewN ?_ _) | (with_reducible refine Kd.C_drew ?_))); (case side4 => exact HC1.out); rintro e w14 ⟨rfl, hb⟩; refine ⟨_, rfl, ?_⟩; have n0_ := Aside0.mk (below_step (bw HB.out) hb); replace HB := n0_; clear n0_; (try clear hb); (try clear hb2); (try clear hk); (try clear hi)))
  go_ret3
  exact ⟨by first | rfl | (simp [errW_none, errW_some] <;> rfl) | (simp [*, errW_none, errW_some] <;> rfl), bw HB.out⟩
 subst c5
 have H1 : ((spec_l11Values.f k l0 l1 a2).bind fun t647 => ((spec_l11Bests.f k l0 a2).bind fun t650 => ((spec_l11Worst.f k t647 t650).bind fun bt653 => (some (bt653.1, bt653.2, true))))) = some (r1, r2, r3) := by rw [if_pos rfl] at H; exact H
 clear H
 have H := H1
 clear H1
 replace H := Option.bind_eq_some_iff.mp H
 obtain ⟨t647, A60, H⟩ := H
 replace H : ((spec_l11Bests.f k l0 a2).bind fun t650 => ((spec_l11Worst.f k t647 t650).bind fun bt653 => (some (bt653.1, bt653.2, true)))) = some (r1, r2, r3) := H
 have A6 := Aside0.mk A60
 clear A60
 replace H := Option.bind_eq_some_iff.mp H
 obtain ⟨t650, A70, H⟩ := H
 replace H : ((spec_l11Worst.f k t647 t650).bind fun bt653 => (some (bt653.1, bt653.2, true))) = some (r1, r2, r3) := H
 have A7 := Aside0.mk A70
 clear A70
 replace H := Option.bind_eq_some_iff.mp H
 obtain ⟨⟨t653, t654⟩, A80, H⟩ := H
 replace H : (some (t653, t654, true)) = some (r1, r2, r3) := H
 have A8 := Aside0.mk A80
 clear A80
 simp only [Option.some.injEq, Prod.mk.injEq] at H
 obtain ⟨rfl, rfl, rfl⟩ := H
 go_enter Try.func22, Try.ntmps22
 go_wp2_with (first | ((with_reducible refine gate_callee (f := 45) rfl ?_); refine goesL_ (some 14) rfl rfl Try.func45 (by kernel_rfl) rfl #[.slice A0 l0.length c0, .slice A1 l1.length c1, .int .i64 a2] rfl (by (try simp only [mA_]); first | done | rfl | (simp only [List.length_drop, List.length_take]; rfl)) ?_; (with_reducible refine (spec_l11Fits.calls k _ _ l0 _ _ l1 a2 true _ ?side1 ?side2 ?side3 ?side4 A4.out).mono ?_); (case side1 => repeat (first | exact HR0.out | (with_reducible refine Kd.C_alloc ?_ _) | (with_reducible refine Kd.C_drewN ?_ _) | (with_reducible refine Kd.C_drew ?_))); (case side2 => exact HC0.out); (case side3 => repeat (first | exact HR1.out | (with_reducible refine Kd.C_alloc ?_ _) | (with_reducible refine Kd.C_drewN ?_ _) | (with_reducible refine Kd.C_drew ?_))); (case side4 => exact HC1.out); rintro e w9 ⟨rfl, hb⟩; refine ⟨_, rfl, ?_⟩; have n0_ := Aside0.mk (below_step (bw HB.out) hb); replace HB := n0_; clear n0_; (try clear hb); (try clear hb2); (try clear hk); (try clear hi)) | ((with_reducible refine gate_callee (f := 47) rfl ?_); refine goesL_ (some 20) rfl rfl Try.func47 (by kernel_rfl) rfl #[.slice A0 l0.length c0, .slice A1 l1.length c1, .int .i64 a2] rfl (by (try simp only [mA_]); first | done | rfl | (simp only [List.length_drop, List.length_take]; rfl)) ?_; (with_reducible refine (spec_l11Values.calls k _ _ l0 _ _ l1 a2 t647 _ ?side1 ?side2 ?side3 ?side4 A6.out).mono ?_); (case side1 => first | exact bC HR0.out HB.out | exact Kd.C_below HR0.out HB.out); (case side2 => exact HC0.out); (case side3 => first | exact bC HR1.out HB.out | exact Kd.C_below HR1.out HB.out); (case side4 => exact HC1.out); rintro e w10 ⟨v648, rfl, ho0, hb⟩; refine ⟨_, rfl, ?_⟩; have n0_ := Aside0.mk (Kd.R_lower ho0 (below_size (bw HB.out))); have n1_ := Aside0.mk (below_step (bw HB.out) hb); have HO649 := n0_; replace HB := n1_; clear n0_ n1_; (try clear hb); (try clear hb2); (try clear hk); (try clear hi); (try clear ho0)) | ((with_reducible refine gate_callee (f := 48) rfl ?_); refine goesL_ (some 23) rfl rfl Try.func48 (by kernel_rfl) rfl #[.slice A0 l0.length c0, .int .i64 a2] rfl (by (try simp only [mA_]); first | done | rfl | (simp only [List.length_drop, List.length_take]; rfl)) ?_; (with_reducible refine (spec_l11Bests.calls k _ _ l0 a2 t650 _ ?side1 ?side2 A7.out).mono ?_); (case side1 => first | exact bC HR0.out HB.out | exact Kd.C_below HR0.out HB.out); (case side2 => exact HC0.out); rintro e w11 ⟨v651, rfl, ho0, hb⟩; refine ⟨_, rfl, ?_⟩; have n0_ := Aside0.mk (Kd.R_elder' (bR HO649.out) (Kd.R_base ho0) hb); have n1_ := Aside0.mk (Kd.R_lower (Kd.R_new' ho0 (Kd.R_lt (bR HO649.out))) (below_size (bw HB.out))); have n2_ := Aside0.mk (below_step (bw HB.out) hb); replace HO649 := n0_; have HO652 := n1_; replace HB := n2_; clear n0_ n1_ n2_; (try clear hb); (try clear hb2); (try clear hk); (try clear hi); (try clear ho0); obtain ⟨Ao12, co12, eo12⟩ := Kd.R_slice HO649.out; subst eo12; obtain ⟨Ao13, co13, eo13⟩ := Kd.R_slice HO652.out; subst eo13) | ((with_reducible refine gate_callee (f := 46) rfl ?_); refine goesL_ (some 24) rfl rfl Try.func46 (by kernel_rfl) rfl #[.slice Ao12 t647.length co12, .slice Ao13 t650.length co13] rfl (by (try simp only [mA_]); first | done | rfl | (simp only [List.length_drop, List.length_take]; rfl)) ?_; (with_reducible refine (spec_l11Worst.calls k _ _ t647 _ _ t650 t653 t654 _ ?side1 ?side2 ?side3 ?side4 A8.out).mono ?_); (case side1 => repeat (first | exact (Kd.R_reads' HO649.out).2.2 | (with_reducible refine Kd.C_alloc ?_ _) | (with_reducible refine Kd.C_drewN ?_ _) | (with_reducible refine Kd.C_drew ?_))); (case side2 => exact (Kd.R_reads' HO649.out).2.1); (case side3 => repeat (first | exact (Kd.R_reads' HO652.out).2.2 | (with_reducible refine Kd.C_alloc ?_ _) | (with_reducible refine Kd.C_drewN ?_ _) | (with_reducible refine Kd.C_drew ?_))); (case side4 => exact (Kd.R_reads' HO652.out).2.1); rintro e w' ⟨rfl, ⟨nd, rfl⟩⟩; refine ⟨_, rfl, ?_⟩))
 go_ret3
 exact ⟨by first | rfl | (simp [errW_none, errW_some] <;> rfl) | (simp [*, errW_none, errW_some] <;> rfl), bw HB.out⟩

/-! ### laws_toJobSS: function 23 -/
def laws_toJobSS.l0 : Nat → List (List (S63)) → List (List (S61)) → Int → Option ((List (List (S61))))
 | 0, _, _, _ => none
 | k + 1, x0, x3, x4 => if x4 < (x0.length : Int) then (if 0 ≤ x4 then ((laws_toJobS.f k (rd_L9 x0 x4)).bind fun t659 => (if x4 < (x3.length : Int) then (laws_toJobSS.l0 k x0 (x3.set (x4 : Int).toNat t659) (wrap64 (x4 + 1))) else (none))) else (none)) else (some x3)
def laws_toJobSS.f (k : Nat) (l0 : List (List (S63))) : Option ((List (List (S61)))) := if 0 ≤ (l0.length : Int) then (if ((l0.length : Int) : Int).toNat ≤ 11728124029610 then (laws_toJobSS.l0 k l0 (List.replicate ((l0.length : Int) : Int).toNat []) 0) else (none)) else (none)
theorem laws_toJobSS.mono_l : ∀ k, (∀ y0 y1 y2, LeO (laws_toJobSS.l0 k y0 y1 y2) (laws_toJobSS.l0 (k + 1) y0 y1 y2))
 | 0 => fun _ _ _ r h => by simp [laws_toJobSS.l0] at h
 | k + 1 => by
  have ih0 := laws_toJobSS.mono_l k
  ·intro y0 y1 y2
   unfold laws_toJobSS.l0
   repeat' first
   | (with_reducible exact ih0 _ _ _)
   | (with_reducible exact laws_toJobS.mono _ _)
   | (with_reducible exact LeO.refl _)
   | (with_reducible exact LeO.none _)
   | (with_reducible refine LeO.ite ?_ ?_)
   | (with_reducible refine LeO.bind ?_ (fun _ => ?_))
   | exact ih0 _ _ _
   | exact laws_toJobS.mono _ _
   | exact LeO.none _
   | refine LeO.ite ?_ ?_
   | refine LeO.bind ?_ (fun _ => ?_)
theorem laws_toJobSS.mono : ∀ a0 k, LeO (laws_toJobSS.f k a0) (laws_toJobSS.f (k + 1) a0) := by
 intro a0 k
 have ih0 := laws_toJobSS.mono_l k
 unfold laws_toJobSS.f
 repeat' first
   | (with_reducible exact ih0 _ _ _)
   | (with_reducible exact laws_toJobS.mono _ _)
   | (with_reducible exact LeO.refl _)
   | (with_reducible exact LeO.none _)
   | (with_reducible refine LeO.ite ?_ ?_)
   | (with_reducible refine LeO.bind ?_ (fun _ => ?_))
   | exact ih0 _ _ _
   | exact laws_toJobS.mono _ _
   | exact LeO.none _
   | refine LeO.ite ?_ ?_
   | refine LeO.bind ?_ (fun _ => ?_)
set_option maxHeartbeats 8000000 in
set_option maxRecDepth 100000 in
theorem laws_toJobSS.calls (k : Nat) (A0 : Option Addr) (c0 : Nat) (l0 : List (List (S63))) (r : List (List (S61))) (w : World) (hr0 : Kd.C (Kd.slice 63 k63) w A0 l0.length l0) (hc0 : l0.length ≤ c0) (h : laws_toJobSS.f k l0 = some r) :
  Calls Try.prog 23 #[.slice A0 l0.length c0] w fun e w' => ∃ v0_ : Value, e = .returned (v0_) ∧ Kd.S (Kd.slice 61 k61) 27 w' w.heap.size (fun _ => True) v0_ r ∧ Below w.heap.size w w' := by
 have HR0 := Aside0.mk hr0
 have HC0 := Aside0.mk hc0
 clear hr0 hc0
 have HB := Aside0.mk (Below.refl w.heap.size w)
 have H : (if 0 ≤ (l0.length : Int) then (if ((l0.length : Int) : Int).toNat ≤ 11728124029610 then (laws_toJobSS.l0 k l0 (List.replicate ((l0.length : Int) : Int).toNat []) 0) else (none)) else (none)) = some r := h
 clear h
 by_cases c2 : 0 ≤ (l0.length : Int)
 rotate_left
 ·rw [if_neg c2] at H
  exact absurd H (by simp)
 rw [if_pos c2] at H
 have c2b0 := eq_true c2
 have c2b1 : decide (0 ≤ (l0.length : Int)) = true := decide_eq_true c2
 clear c2
 by_cases c3 : ((l0.length : Int) : Int).toNat ≤ 11728124029610
 rotate_left
 ·rw [if_neg c3] at H
  exact absurd H (by simp)
 rw [if_pos c3] at H
 have c3b0 := eq_true c3
 have c3b1 : decide (((l0.length : Int) : Int).toNat ≤ 11728124029610) = true := decide_eq_true c3
 clear c3
 obtain ⟨y655, hy655⟩ : ∃ y_ : List (List (S61)), y_ = (List.replicate ((l0.length : Int) : Int).toNat []) := ⟨_, rfl⟩
 replace H : (laws_toJobSS.l0 k l0 y655 0) = some r := by first | (rw [hy655]; with_reducible exact H) | (have H2_ := (Option.bind_some _ _).symm.trans H; rw [hy655]; with_reducible exact H2_) | (have H2_ := (Option.bind_some _ _).symm.trans H; with_reducible exact H2_) | with_reducible exact H | (rw [hy655]; exact H) | exact H
 have Ny655 := Aside0.mk hy655
 clear hy655
 have H' := Aside0.mk H
 clear H
 go_enter Try.func23, Try.ntmps23
 go_wp2_with (first | ((with_reducible refine gate_dst (N := 7) rfl ?_); refine Kd.S_make (Kd.slice 61 k61) _ 27 rfl (N := 7) rfl 51 _ _ rfl (l0.length : Int) rfl rfl Try.underlying51 (.slice none 0 0) 24 info27 rfl (by decide) (by omega) [] (ok := fun _ => True) (okp := fun _ => True) ⟨_, rfl, Kd.R_nil _ _ _ _ _⟩ (fun _ hk => hk) trivial (of_decide_eq_true (by first | (with_reducible assumption) | assumption)) (Nat.le_trans (Nat.mul_le_mul_right _ (of_decide_eq_true (by first | (with_reducible assumption) | assumption) : (l0.length : Int).toNat ≤ 11728124029610)) (by omega)) (Below.refl _ _) (Nat.le_refl _) ?_; intro v656 w4 ho5 hb hg_ hnew_; clear hg_ hnew_; (first | rw [← Ny655.out] at ho5 | (simp only [Int.reduceToNat] at ho5; rw [← Ny655.out] at ho5)); have n0_ := Aside0.mk (Kd.S_lower ho5 (below_size (bw HB.out))); have n1_ := Aside0.mk (below_step (bw HB.out) hb); have HO657 := n0_; replace HB := n1_; clear n0_ n1_; clear hb ho5))
 go_loopg [4] k (fun kq v4 w' => ∃ (x3_1 : List (List (S61))) (x4_1 : Int), v4 = .int .i64 x4_1 ∧ Aside0 (laws_toJobSS.l0 kq l0 x3_1 x4_1 = some r) ∧ Aside0 (kq ≤ k) ∧ Aside0 (Kd.S (Kd.slice 61 k61) 27 w' w.heap.size (fun _ => True) v656 x3_1) ∧ Aside0 (Below w.heap.size w w'))
 case atStart => exact ⟨(y655), (0), (by first | rfl | (simp; done) | (simp [*]; done)), H', ⟨Nat.le_refl _⟩, ⟨by (with_reducible repeat (first | apply Kd.S_alloc | apply Kd.S_drewN | apply Kd.S_drew)); exact HO657.out⟩, ⟨bw HB.out⟩⟩
 case round =>
  clear H'
  try clear c2
  try clear c2b0
  try clear c2b1
  try clear p2
  try clear c3
  try clear c3b0
  try clear c3b1
  obtain ⟨x3_1, x4_1, rfl, HA, HK1, HO_3, HB⟩ := hrel
  cases gk with
  | zero => exact absurd HA.out (by simp [laws_toJobSS.l0])
  | succ k1 =>
   have H := HA.out
   clear HA
   simp only [laws_toJobSS.l0] at H
   by_cases c6 : x4_1 < (l0.length : Int)
   rotate_left
   ·rw [if_neg c6] at H
    have c6b0 : decide (x4_1 < (l0.length : Int)) = false := decide_eq_false c6
    clear c6
    obtain rfl := Option.some.inj H
    go_wp2
    go_ret
    exact ⟨_, by first | rfl | (simp [errW_none, errW_some] <;> rfl) | (simp [*, errW_none, errW_some] <;> rfl), by (with_reducible repeat (first | apply Kd.S_alloc | apply Kd.S_drewN | apply Kd.S_drew)); exact HO_3.out, bw HB.out⟩
   rw [if_pos c6] at H
   have c6b0 : decide (x4_1 < (l0.length : Int)) = true := decide_eq_true c6
   clear c6
   by_cases c7 : 0 ≤ x4_1
   rotate_left
   ·rw [if_neg c7] at H
    exact absurd H (by simp)
   rw [if_pos c7] at H
   have c7b0 : decide (0 ≤ x4_1) = true := decide_eq_true c7
   clear c7
   replace H := Option.bind_eq_some_iff.mp H
   obtain ⟨t659, A80, H⟩ := H
   replace H : (if x4_1 < (x3_1.length : Int) then (laws_toJobSS.l0 k1 l0 (x3_1.set (x4_1 : Int).toNat t659) (wrap64 (x4_1 + 1))) else (none)) = some r := H
   have A8 := Aside0.mk A80
   clear A80
   by_cases c9 : x4_1 < (x3_1.length : Int)
   rotate_left
   ·rw [if_neg c9] at H
    exact absurd H (by simp)
   rw [if_pos c9] at H
   have c9b0 : decide (x4_1 < (x3_1.length : Int)) = true := decide_eq_true c9
   clear c9
   obtain ⟨y662, hy662⟩ : ∃ y_ : List (List (S61)), y_ = (x3_1.set (x4_1 : Int).toNat t659) := ⟨_, rfl⟩
   replace H : (laws_toJobSS.l0 k1 l0 y662 (wrap64 (x4_1 + 1))) = some r := by first | (rw [hy662]; with_reducible exact H) | (have H2_ := (Option.bind_some _ _).symm.trans H; rw [hy662]; with_reducible exact H2_) | (have H2_ := (Option.bind_some _ _).symm.trans H; with_reducible exact H2_) | with_reducible exact H | (rw [hy662]; exact H) | exact H
   have Ny662 := Aside0.mk hy662
   clear hy662
   have H' := Aside0.mk H
   clear H
   have p658 : 0 ≤ (x4_1 : Int) := of_decide_eq_true (by first | (with_reducible assumption) | assumption)
   have q658 : x4_1 < (l0.length : Int) := of_decide_eq_true (by first | (with_reducible assumption) | assumption)
   obtain ⟨ad658, A658_0, c658_0, e658, hx658_0, hl658_0, hi658_0⟩ := at_L9 HR0.out x4_1 p658 q658
   cases e658
   replace hx658_0 := (HB.out.cell (World.block_lt_of_cell? w _ hx658_0)).trans hx658_0
   have HR658_0 := Aside0.mk hi658_0
   have HC658_0 := Aside0.mk hl658_0
   clear hi658_0 hl658_0
   replace p658 := eq_true p658
   replace q658 := eq_true q658
   go_wp2_with (first | ((with_reducible refine gate_callee (f := 9) rfl ?_); refine goesL_ (some 20) rfl rfl Try.func9 (by kernel_rfl) rfl #[.slice A658_0 (rd_L9 l0 x4_1).length c658_0] rfl (by (try simp only [mA_]); first | done | rfl | (simp only [List.length_drop, List.length_take]; rfl)) ?_; (with_reducible refine (laws_toJobS.calls k1 _ _ (rd_L9 l0 x4_1) t659 _ ?side1 ?side2 A8.out).mono ?_); (case side1 => first | exact bC HR658_0.out HB.out | exact Kd.C_below HR658_0.out HB.out); (case side2 => exact HC658_0.out); rintro e w11 ⟨v660, rfl, ho0, hb⟩; refine ⟨_, rfl, ?_⟩; have n0_ := Aside0.mk (Kd.S_elder' (by (with_reducible repeat (first | apply Kd.S_alloc | apply Kd.S_drewN | apply Kd.S_drew)); exact HO_3.out) (Kd.R_base ho0) hb); have n1_ := Aside0.mk (Kd.R_lower ho0 (below_size (bw HB.out))); have n2_ := Aside0.mk (below_step (bw HB.out) hb); replace HO_3 := n0_; have HO661 := n1_; replace HB := n2_; clear n0_ n1_ n2_; (try clear hb); (try clear hb2); (try clear hk); (try clear hi); (try clear ho0); have p10 : 0 ≤ (x4_1 : Int) := of_decide_eq_true (by first | (with_reducible assumption) | assumption); have q10 : (x4_1 : Int) < ((x3_1.length : Int) : Int) := of_decide_eq_true (by first | (with_reducible assumption) | assumption); obtain ⟨go10, co10, eo10, gb10, gl10, cl10, HG10⟩ := Kd.S_form HO_3.out (by omega); (first | cases eo10 | (injection eo10 with ea_ en_ ec_; (first | subst ea_ | (injection ea_ with ea_; subst ea_)); subst ec_; clear en_)); have GB10 := Aside0.mk gb10; have GG10 := Aside0.mk HG10; clear gb10 gl10 HG10; obtain ⟨_, ce10, hcl10, hM10, hcc10, hfr10, _, _⟩ := Kd.S_elem HO_3.out [] (x4_1 : Int) p10 q10; obtain ⟨ve10_0, rfl, ge10_0⟩ := hM10; have hx10_0 := hcc10 0 _ rfl; have hf10_0 := hfr10 0; (try simp only [show ((Kd.slice 61 k61)).sz = 1 from rfl, Nat.mul_one, Nat.add_zero] at hx10_0); (try simp only [show ((Kd.slice 61 k61)).sz = 1 from rfl, Nat.mul_one, Nat.add_zero] at hf10_0); clear hcl10 hcc10 hfr10; (try clear hM10); replace p10 := eq_true p10; replace q10 := eq_true q10; have n_ := Aside0.mk (Kd.S_mono (ok' := (fun k_ => some k_ ≠ (v660 : Value).ownBlock)) HO_3.out (fun k_ hk => hk.2)); clear HO_3; have HO_3 := n_; clear n_; have HX12 := Aside0.mk (show Kd.S (Kd.slice 61 k61) 27 w11 w.heap.size (fun k_ => ((fun _ => True)) k_ ∧ ¬ ((fun k_ => some k_ = (v660 : Value).ownBlock)) k_) (.slice (some ⟨go10, 0, none⟩) x3_1.length co10) x3_1 from (by (with_reducible repeat (first | apply Kd.S_alloc | apply Kd.S_drewN | apply Kd.S_drew)); exact Kd.S_mono HO_3.out (fun k_ hk => ⟨trivial, fun e_ => hk e_⟩))); obtain ⟨oki12, ce12, hcl12, hM12, hcc12, hfr12, hoki12, hH12⟩ := Kd.S_elem HX12.out [] (x4_1 : Int) (of_decide_eq_true (by first | (with_reducible assumption) | assumption)) (by have h_ : (x4_1 : Int) < ((x3_1.length : Int) : Int) := of_decide_eq_true (by first | (with_reducible assumption) | assumption); first | exact h_ | (have e_ := (Kd.S_reads' HO_3.out).1; omega) | simpa using h_); obtain ⟨ve12_0, rfl, ge12_0⟩ := hM12; have HP12 := Kd.S_seg hH12 (of_decide_eq_true (by first | (with_reducible assumption) | assumption)) (by have h_ : (x4_1 : Int) < ((x3_1.length : Int) : Int) := of_decide_eq_true (by first | (with_reducible assumption) | assumption); first | exact h_ | (have e_ := (Kd.S_reads' HO_3.out).1; omega) | simpa using h_) (seg := [v660]) (j := 0) (show 1 ≤ 1 from by decide) (x' := t659) (Kd.M_row (Kd.R_mono (Kd.R_tight rfl (Kd.R_mono (ok' := fun k_ => ((fun _ => True)) k_ ∧ k_ ≠ go10) (Kd.R_apart' (HO661.out) (Kd.S_typed HO_3.out) (by decide)) (fun k_ hk => ⟨trivial, fun e_ => (hk.2) (by rw [e_]; rfl)⟩))) (fun _ h_ => Or.inr (h_)))) (fun _ hk => hk) (fun k_ hk_ => ((Kd.R_mono (ok' := fun k_ => ((fun _ => True)) k_ ∧ k_ ≠ go10) (Kd.R_apart' (HO661.out) (Kd.S_typed HO_3.out) (by decide)) (fun k_ hk => ⟨trivial, fun e_ => (hk.2) (by rw [e_]; rfl)⟩))).1 k_ hk_.symm); have hx12_0 := hcc12 0 _ rfl; (try simp only [show ((Kd.slice 61 k61)).sz = 1 from rfl, Nat.mul_one, Nat.add_zero] at hx12_0); have hf12_0 := hfr12 0; (try simp only [show ((Kd.slice 61 k61)).sz = 1 from rfl, Nat.mul_one, Nat.add_zero] at hf12_0); clear hcl12 hcc12 hfr12; (try clear hM12); clear hoki12 hH12; (try simp only [show ((Kd.slice 61 k61)).sz = 1 from rfl, Nat.mul_one, Nat.add_zero] at HP12)) | ((with_reducible refine gate_store (t := 27) (p := 21) rfl ?_); refine store_event (t := 27) (p := 21) (v := ?vo_w13) (w1 := (w11.setCell ⟨go10, (x4_1 : Int).toNat, none⟩ (v660))) ?hg ?ho ?hn ?hr ?_; (case ho => rfl); (case hg => rfl); (case hn => rfl); (case hr => first | (go_simp; done) | (go_simp; rfl) | (first | (obtain ⟨A_, c_, e_⟩ := Kd.R_slice HO661.out; subst e_; first | (go_simp; done) | (go_simp; rfl)) | (obtain ⟨A_, c_, e_⟩ := Kd.S_slice HO661.out; subst e_; first | (go_simp; done) | (go_simp; rfl)))); intro w13 hw; have hg : w11.grownBy w13 (some go10) := (by rw [hw]; exact HP12.2); have hp_ : Kd.S (Kd.slice 61 k61) 27 w13 w.heap.size (fun _ => True) (.slice (some ⟨go10, 0, none⟩) x3_1.length co10) y662 := (by rw [hw, Ny662.out]; exact HP12.1); clear HP12; have n0_ := Aside0.mk (hp_); have n1_ := Aside0.mk ((by rw [hw]; exact below_set (HB.out) GB10.out : Below w.heap.size w w13)); clear HO661; replace HO_3 := n0_; replace HB := n1_; clear n0_ n1_; clear hg hw hp_))
   go_roundg k1
   case measure => have := HK1.out; omega
   case rel => exact ⟨(y662), (wrap64 (x4_1 + 1)), (by first | rfl | (simp; done) | (simp [*]; done)), H', ⟨by have := HK1.out; omega⟩, ⟨by (with_reducible repeat (first | apply Kd.S_alloc | apply Kd.S_drewN | apply Kd.S_drew)); exact HO_3.out⟩, ⟨bw HB.out⟩⟩

/-! ### impl_AreScenarios: function 80 -/
def impl_AreScenarios.l0 : Nat → List (List (S61)) → List (List (S61)) → Int → Int → Option (Bool)
 | 0, _, _, _, _ => none
 | k + 1, x0, x9, x10, x11 => if x11 < x10 then (if 0 ≤ x11 then (if x11 < (x9.length : Int) then ((impl_IsJobs.f k (rd_L4 x9 x11)).bind fun t665 => (if t665 = true then (if 0 < (x0.length : Int) then (if ((rd_L4 x9 x11).length : Int) = ((rd_L4 x0 0).length : Int) then (impl_AreScenarios.l0 k x0 x9 x10 (wrap64 (x11 + 1))) else (some false)) else (none)) else (some false))) else (none)) else (none)) else (some true)
def impl_AreScenarios.f (k : Nat) (l0 : List (List (S61))) : Option (Bool) := (impl_within.f (l0.length : Int) 1 4).bind fun t663 => (if t663 = true then (impl_AreScenarios.l0 k l0 l0 (l0.length : Int) 0) else (some false))
theorem impl_AreScenarios.mono_l : ∀ k, (∀ y0 y1 y2 y3, LeO (impl_AreScenarios.l0 k y0 y1 y2 y3) (impl_AreScenarios.l0 (k + 1) y0 y1 y2 y3))
 | 0 => fun _ _ _ _ r h => by simp [impl_AreScenarios.l0] at h
 | k + 1 => by
  have ih0 := impl_AreScenarios.mono_l k
  ·intro y0 y1 y2 y3
   unfold impl_AreScenarios.l0
   repeat' first
   | (with_reducible exact ih0 _ _ _ _)
   | (with_reducible exact impl_IsJobs.mono _ _)
   | (with_reducible exact LeO.refl _)
   | (with_reducible exact LeO.none _)
   | (with_reducible refine LeO.ite ?_ ?_)
   | (with_reducible refine LeO.bind ?_ (fun _ => ?_))
   | exact ih0 _ _ _ _
   | exact impl_IsJobs.mono _ _
   | exact LeO.none _
   | refine LeO.ite ?_ ?_
   | refine LeO.bind ?_ (fun _ => ?_)
theorem impl_AreScenarios.mono : ∀ a0 k, LeO (impl_AreScenarios.f k a0) (impl_AreScenarios.f (k + 1) a0) := by
 intro a0 k
 have ih0 := impl_AreScenarios.mono_l k
 unfold impl_AreScenarios.f
 repeat' first
   | (with_reducible exact ih0 _ _ _ _)
   | (with_reducible exact impl_IsJobs.mono _ _)
   | (with_reducible exact LeO.refl _)
   | (with_reducible exact LeO.none _)
   | (with_reducible refine LeO.ite ?_ ?_)
   | (with_reducible refine LeO.bind ?_ (fun _ => ?_))
   | exact ih0 _ _ _ _
   | exact impl_IsJobs.mono _ _
   | exact LeO.none _
   | refine LeO.ite ?_ ?_
   | refine LeO.bind ?_ (fun _ => ?_)
set_option maxHeartbeats 8000000 in
set_option maxRecDepth 100000 in
theorem impl_AreScenarios.calls (k : Nat) (A0 : Option Addr) (c0 : Nat) (l0 : List (List (S61))) (r : Bool) (w : World) (hr0 : Kd.C (Kd.slice 61 k61) w A0 l0.length l0) (hc0 : l0.length ≤ c0) (h : impl_AreScenarios.f k l0 = some r) :
  Calls Try.prog 80 #[.slice A0 l0.length c0] w fun e w' => e = .returned (.bool r) ∧ Below w.heap.size w w' := by
 have HR0 := Aside0.mk hr0
 have HC0 := Aside0.mk hc0
 clear hr0 hc0
 have HB := Aside0.mk (Below.refl w.heap.size w)
 have H : ((impl_within.f (l0.length : Int) 1 4).bind fun t663 => (if t663 = true then (impl_AreScenarios.l0 k l0 l0 (l0.length : Int) 0) else (some false))) = some r := h
 clear h
 replace H := Option.bind_eq_some_iff.mp H
 obtain ⟨t663, A20, H⟩ := H
 replace H : (if t663 = true then (impl_AreScenarios.l0 k l0 l0 (l0.length : Int) 0) else (some false)) = some r := H
 have A2 := Aside0.mk A20
 clear A20
 by_cases c3 : t663 = true
 rotate_left
 ·replace c3 := Bool.eq_false_iff.mpr c3
  subst c3
  have H1 : (some false) = some r := by rw [if_neg (show ¬ (false = true) by decide)] at H; exact H
  clear H
  have H := H1
  clear H1
  obtain rfl := Option.some.inj H
  go_enter Try.func80, Try.ntmps80
  go_wp2_with (first | ((with_reducible refine gate_callee (f := 70) rfl ?_); refine goesL_ (some 7) rfl rfl Try.func70 (by kernel_rfl) rfl #[.int .i64 (l0.length : Int), .int .i64 1, .int .i64 4] rfl (by (try simp only [mA_]); first | done | rfl | (simp only [List.length_drop, List.length_take]; rfl)) ?_; (with_reducible refine (impl_within.calls (l0.length : Int) 1 4 false _ A2.out).mono ?_); rintro e w' ⟨rfl, ⟨nd, rfl⟩⟩; refine ⟨_, rfl, ?_⟩))
  go_ret
  exact ⟨by first | rfl | (simp [errW_none, errW_some] <;> rfl) | (simp [*, errW_none, errW_some] <;> rfl), bw HB.out⟩
 subst c3
 have H1 : (impl_AreScenarios.l0 k l0 l0 (l0.length : Int) 0) = some r := by rw [if_pos rfl] at H; exact H
 clear H
 have H := H1
 clear H1
 have H' := Aside0.mk H
 clear H
 go_enter Try.func80, Try.ntmps80
 go_wp2_with (first | ((with_reducible refine gate_callee (f := 70) rfl ?_); refine goesL_ (some 7) rfl rfl Try.func70 (by kernel_rfl) rfl #[.int .i64 (l0.length : Int), .int .i64 1, .int .i64 4] rfl (by (try simp only [mA_]); first | done | rfl | (simp only [List.length_drop, List.length_take]; rfl)) ?_; (with_reducible refine (impl_within.calls (l0.length : Int) 1 4 true _ A2.out).mono ?_); rintro e w' ⟨rfl, ⟨nd, rfl⟩⟩; refine ⟨_, rfl, ?_⟩))
 go_loopg [11] k (fun kq v11 w' => ∃ (x11_1 : Int), v11 = .int .i64 x11_1 ∧ Aside0 (impl_AreScenarios.l0 kq l0 l0 (l0.length : Int) x11_1 = some r) ∧ Aside0 (kq ≤ k) ∧ Aside0 (Below w.heap.size w w'))
 case atStart => exact ⟨(0), (by first | rfl | (simp; done) | (simp [*]; done)), H', ⟨Nat.le_refl _⟩, ⟨bw HB.out⟩⟩
 case round =>
  clear H'
  try clear p2
  try clear c3
  obtain ⟨x11_1, rfl, HA, HK1, HB⟩ := hrel
  cases gk with
  | zero => exact absurd HA.out (by simp [impl_AreScenarios.l0])
  | succ k1 =>
   have H := HA.out
   clear HA
   simp only [impl_AreScenarios.l0] at H
   by_cases c4 : x11_1 < (l0.length : Int)
   rotate_left
   ·rw [if_neg c4] at H
    have c4b0 : decide (x11_1 < (l0.length : Int)) = false := decide_eq_false c4
    clear c4
    obtain rfl := Option.some.inj H
    go_wp2
    go_ret
    exact ⟨by first | rfl | (simp [errW_none, errW_some] <;> rfl) | (simp [*, errW_none, errW_some] <;> rfl), bw HB.out⟩
   rw [if_pos c4] at H
   have c4b0 : decide (x11_1 < (l0.length : Int)) = true := decide_eq_true c4
   clear c4
   by_cases c5 : 0 ≤ x11_1
   rotate_left
   ·rw [if_neg c5] at H
    exact absurd H (by simp)
   rw [if_pos c5] at H
   have c5b0 : decide (0 ≤ x11_1) = true := decide_eq_true c5
   clear c5
   by_cases c6 : x11_1 < (l0.length : Int)
   rotate_left
   ·rw [if_neg c6] at H
    exact absurd H (by simp)
   rw [if_pos c6] at H
   have c6b0 : decide (x11_1 < (l0.length : Int)) = true := decide_eq_true c6
   clear c6
   replace H := Option.bind_eq_some_iff.mp H
   obtain ⟨t665, A70, H⟩ := H
   replace H : (if t665 = true then (if 0 < (l0.length : Int) then (if ((rd_L4 l0 x11_1).length : Int) = ((rd_L4 l0 0).length : Int) then (impl_AreScenarios.l0 k1 l0 l0 (l0.length : Int) (wrap64 (x11_1 + 1))) else (some false)) else (none)) else (some false)) = some r := H
   have A7 := Aside0.mk A70
   clear A70
   by_cases c8 : t665 = true
   rotate_left
   ·replace c8 := Bool.eq_false_iff.mpr c8
    subst c8
    have H1 : (some false) = some r := by rw [if_neg (show ¬ (false = true) by decide)] at H; exact H
    clear H
    have H := H1
    clear H1
    obtain rfl := Option.some.inj H
    have p664 : 0 ≤ (x11_1 : Int) := of_decide_eq_true (by first | (with_reducible assumption) | assumption)
    have q664 : x11_1 < (l0.length : Int) := of_decide_eq_true (by first | (with_reducible assumption) | assumption)
    obtain ⟨ad664, A664_0, c664_0, e664, hx664_0, hl664_0, hi664_0⟩ := at_L4 HR0.out x11_1 p664 q664
    cases e664
    replace hx664_0 := (HB.out.cell (World.block_lt_of_cell? w _ hx664_0)).trans hx664_0
    have HR664_0 := Aside0.mk hi664_0
    have HC664_0 := Aside0.mk hl664_0
    clear hi664_0 hl664_0
    replace p664 := eq_true p664
    replace q664 := eq_true q664
    go_wp2_with (first | ((with_reducible refine gate_callee (f := 37) rfl ?_); refine goesL_ (some 16) rfl rfl Try.func37 (by kernel_rfl) rfl #[.slice A664_0 (rd_L4 l0 x11_1).length c664_0] rfl (by (try simp only [mA_]); first | done | rfl | (simp only [List.length_drop, List.length_take]; rfl)) ?_; (with_reducible refine (impl_IsJobs.calls k1 _ _ (rd_L4 l0 x11_1) false _ ?side1 ?side2 A7.out).mono ?_); (case side1 => first | exact bC HR664_0.out HB.out | exact Kd.C_below HR664_0.out HB.out); (case side2 => exact HC664_0.out); rintro e w13 ⟨rfl, hb⟩; refine ⟨_, rfl, ?_⟩; have n0_ := Aside0.mk (below_step (bw HB.out) hb); replace HB := n0_; clear n0_; (try clear hb); (try clear hb2); (try clear hk); (try clear hi)))
    go_ret
    exact ⟨by first | rfl | (simp [errW_none, errW_some] <;> rfl) | (simp [*, errW_none, errW_some] <;> rfl), bw HB.out⟩
   subst c8
   have H1 : (if 0 < (l0.length : Int) then (if ((rd_L4 l0 x11_1).length : Int) = ((rd_L4 l0 0).length : Int) then (impl_AreScenarios.l0 k1 l0 l0 (l0.length : Int) (wrap64 (x11_1 + 1))) else (some false)) else (none)) = some r := by rw [if_pos rfl] at H; exact H
   clear H
   have H := H1
   clear H1
   by_cases c9 : 0 < (l0.length : Int)
   rotate_left
   ·rw [if_neg c9] at H
    exact absurd H (by simp)
   rw [if_pos c9] at H
   have c9b0 : decide (0 < (l0.length : Int)) = true := decide_eq_true c9
   have c9b1 : decide (0 < l0.length) = true := decide_eq_true (by omega)
   clear c9
   by_cases c10 : ((rd_L4 l0 x11_1).length : Int) = ((rd_L4 l0 0).length : Int)
   rotate_left
   ·rw [if_neg c10] at H
    have c10b0 : (((rd_L4 l0 x11_1).length : Int) == ((rd_L4 l0 0).length : Int)) = false := beq_eq_false_iff_ne.mpr c10
    have c10b1 : (((rd_L4 l0 x11_1).length : Int) != ((rd_L4 l0 0).length : Int)) = true := bne_iff_ne.mpr c10
    have c10b2 : ((rd_L4 l0 x11_1).length == (rd_L4 l0 0).length) = false := by first | simpa using c10 | (simp at c10 ⊢; omega)
    obtain rfl := Option.some.inj H
    have p664 : 0 ≤ (x11_1 : Int) := of_decide_eq_true (by first | (with_reducible assumption) | assumption)
    have q664 : x11_1 < (l0.length : Int) := of_decide_eq_true (by first | (with_reducible assumption) | assumption)
    obtain ⟨ad664, A664_0, c664_0, e664, hx664_0, hl664_0, hi664_0⟩ := at_L4 HR0.out x11_1 p664 q664
    cases e664
    replace hx664_0 := (HB.out.cell (World.block_lt_of_cell? w _ hx664_0)).trans hx664_0
    have HR664_0 := Aside0.mk hi664_0
    have HC664_0 := Aside0.mk hl664_0
    clear hi664_0 hl664_0
    replace p664 := eq_true p664
    replace q664 := eq_true q664
    go_wp2_with (first | ((with_reducible refine gate_callee (f := 37) rfl ?_); refine goesL_ (some 16) rfl rfl Try.func37 (by kernel_rfl) rfl #[.slice A664_0 (rd_L4 l0 x11_1).length c664_0] rfl (by (try simp only [mA_]); first | done | rfl | (simp only [List.length_drop, List.length_take]; rfl)) ?_; (with_reducible refine (impl_IsJobs.calls k1 _ _ (rd_L4 l0 x11_1) true _ ?side1 ?side2 A7.out).mono ?_); (case side1 => first | exact bC HR664_0.out HB.out | exact Kd.C_below HR664_0.out HB.out); (case side2 => exact HC664_0.out); rintro e w12 ⟨rfl, hb⟩; refine ⟨_, rfl, ?_⟩; have n0_ := Aside0.mk (below_step (bw HB.out) hb); replace HB := n0_; clear n0_; (try clear hb); (try clear hb2); (try clear hk); (try clear hi); have p666 : 0 ≤ (0 : Int) := (by omega); have q666 : 0 < (l0.length : Int) := of_decide_eq_true (by first | (with_reducible assumption) | assumption); obtain ⟨ad666, A666_0, c666_0, e666, hx666_0, hl666_0, hi666_0⟩ := at_L4 HR0.out 0 p666 q666; obtain rfl : ad664 = ad666 := (by injection e666); have qi666 : (0 < l0.length) = True := eq_true (by omega); (try rw [show ((0 : Int)).toNat = 0 from rfl] at hx666_0); (try rw [Addr.add_zero'] at hx666_0); replace hx666_0 := (HB.out.cell (World.block_lt_of_cell? w _ hx666_0)).trans hx666_0; have HR666_0 := Aside0.mk hi666_0; have HC666_0 := Aside0.mk hl666_0; clear hi666_0 hl666_0; replace p666 := eq_true p666; replace q666 := eq_true q666))
    go_ret
    exact ⟨by first | rfl | (simp [errW_none, errW_some] <;> rfl) | (simp [*, errW_none, errW_some] <;> rfl), bw HB.out⟩
   rw [if_pos c10] at H
   have c10b0 : (((rd_L4 l0 x11_1).length : Int) == ((rd_L4 l0 0).length : Int)) = true := beq_iff_eq.mpr c10
   have c10b1 : (((rd_L4 l0 x11_1).length : Int) != ((rd_L4 l0 0).length : Int)) = false := bne_eq_false_iff_eq.mpr c10
   have c10b2 : ((rd_L4 l0 x11_1).length == (rd_L4 l0 0).length) = true := by first | simpa using c10 | (simp at c10 ⊢; omega)
   clear c10
   have H' := Aside0.mk H
   clear H
   have p664 : 0 ≤ (x11_1 : Int) := of_decide_eq_true (by first | (with_reducible assumption) | assumption)
   have q664 : x11_1 < (l0.length : Int) := of_decide_eq_true (by first | (with_reducible assumption) | assumption)
   obtain ⟨ad664, A664_0, c664_0, e664, hx664_0, hl664_0, hi664_0⟩ := at_L4 HR0.out x11_1 p664 q664
   cases e664
   replace hx664_0 := (HB.out.cell (World.block_lt_of_cell? w _ hx664_0)).trans hx664_0
   have HR664_0 := Aside0.mk hi664_0
   have HC664_0 := Aside0.mk hl664_0
   clear hi664_0 hl664_0
   replace p664 := eq_true p664
   replace q664 := eq_true q664
   go_wp2_with (first | ((with_reducible refine gate_callee (f := 37) rfl ?_); refine goesL_ (some 16) rfl rfl Try.func37 (by kernel_rfl) rfl #[.slice A664_0 (rd_L4 l0 x11_1).length c664_0] rfl (by (try simp only [mA_]); first | done | rfl | (simp only [List.length_drop, List.length_take]; rfl)) ?_; (with_reducible refine (impl_IsJobs.calls k1 _ _ (rd_L4 l0 x11_1) true _ ?side1 ?side2 A7.out).mono ?_); (case side1 => first | exact bC HR664_0.out HB.out | exact Kd.C_below HR664_0.out HB.out); (case side2 => exact HC664_0.out); rintro e w11 ⟨rfl, hb⟩; refine ⟨_, rfl, ?_⟩; have n0_ := Aside0.mk (below_step (bw HB.out) hb); replace HB := n0_; clear n0_; (try clear hb); (try clear hb2); (try clear hk); (try clear hi); have p666 : 0 ≤ (0 : Int) := (by omega); have q666 : 0 < (l0.length : Int) := of_decide_eq_true (by first | (with_reducible assumption) | assumption); obtain ⟨ad666, A666_0, c666_0, e666, hx666_0, hl666_0, hi666_0⟩ := at_L4 HR0.out 0 p666 q666; obtain rfl : ad664 = ad666 := (by injection e666); have qi666 : (0 < l0.length) = True := eq_true (by omega); (try rw [show ((0 : Int)).toNat = 0 from rfl] at hx666_0); (try rw [Addr.add_zero'] at hx666_0); replace hx666_0 := (HB.out.cell (World.block_lt_of_cell? w _ hx666_0)).trans hx666_0; have HR666_0 := Aside0.mk hi666_0; have HC666_0 := Aside0.mk hl666_0; clear hi666_0 hl666_0; replace p666 := eq_true p666; replace q666 := eq_true q666))
   go_roundg k1
   case measure => have := HK1.out; omega
   case rel => exact ⟨(wrap64 (x11_1 + 1)), (by first | rfl | (simp; done) | (simp [*]; done)), H', ⟨by have := HK1.out; omega⟩, ⟨bw HB.out⟩⟩

/-! ### impl_areRobust: function 49 -/
def impl_areRobust.f (k : Nat) (l0 : List (List (S61))) (a1 : Int) : Option (Bool) := (impl_AreScenarios.f k l0).bind fun t667 => (if t667 = true then ((impl_isObjective.f a1).bind fun t668 => (some t668)) else (some false))
theorem impl_areRobust.mono : ∀ a0 a1 k, LeO (impl_areRobust.f k a0 a1) (impl_areRobust.f (k + 1) a0 a1) := by
 intro a0 a1 k
 unfold impl_areRobust.f
 repeat' first
   | (with_reducible exact impl_AreScenarios.mono _ _)
   | (with_reducible exact LeO.refl _)
   | (with_reducible exact LeO.none _)
   | (with_reducible refine LeO.ite ?_ ?_)
   | (with_reducible refine LeO.bind ?_ (fun _ => ?_))
   | exact impl_AreScenarios.mono _ _
   | exact LeO.none _
   | refine LeO.ite ?_ ?_
   | refine LeO.bind ?_ (fun _ => ?_)
set_option maxHeartbeats 8000000 in
set_option maxRecDepth 100000 in
theorem impl_areRobust.calls (k : Nat) (A0 : Option Addr) (c0 : Nat) (l0 : List (List (S61))) (a1 : Int) (r : Bool) (w : World) (hr0 : Kd.C (Kd.slice 61 k61) w A0 l0.length l0) (hc0 : l0.length ≤ c0) (h : impl_areRobust.f k l0 a1 = some r) :
  Calls Try.prog 49 #[.slice A0 l0.length c0, .int .i64 a1] w fun e w' => e = .returned (.bool r) ∧ Below w.heap.size w w' := by
 have HR0 := Aside0.mk hr0
 have HC0 := Aside0.mk hc0
 clear hr0 hc0
 have HB := Aside0.mk (Below.refl w.heap.size w)
 have H : ((impl_AreScenarios.f k l0).bind fun t667 => (if t667 = true then ((impl_isObjective.f a1).bind fun t668 => (some t668)) else (some false))) = some r := h
 clear h
 replace H := Option.bind_eq_some_iff.mp H
 obtain ⟨t667, A30, H⟩ := H
 replace H : (if t667 = true then ((impl_isObjective.f a1).bind fun t668 => (some t668)) else (some false)) = some r := H
 have A3 := Aside0.mk A30
 clear A30
 by_cases c4 : t667 = true
 rotate_left
 ·replace c4 := Bool.eq_false_iff.mpr c4
  subst c4
  have H1 : (some false) = some r := by rw [if_neg (show ¬ (false = true) by decide)] at H; exact H
  clear H
  have H := H1
  clear H1
  obtain rfl := Option.some.inj H
  go_enter Try.func49, Try.ntmps49
  go_wp2_with (first | ((with_reducible refine gate_callee (f := 80) rfl ?_); refine goesL_ (some 6) rfl rfl Try.func80 (by kernel_rfl) rfl #[.slice A0 l0.length c0] rfl (by (try simp only [mA_]); first | done | rfl | (simp only [List.length_drop, List.length_take]; rfl)) ?_; (with_reducible refine (impl_AreScenarios.calls k _ _ l0 false _ ?side1 ?side2 A3.out).mono ?_); (case side1 => repeat (first | exact HR0.out | (with_reducible refine Kd.C_alloc ?_ _) | (with_reducible refine Kd.C_drewN ?_ _) | (with_reducible refine Kd.C_drew ?_))); (case side2 => exact HC0.out); rintro e w7 ⟨rfl, hb⟩; refine ⟨_, rfl, ?_⟩; have n0_ := Aside0.mk (below_step (bw HB.out) hb); replace HB := n0_; clear n0_; (try clear hb); (try clear hb2); (try clear hk); (try clear hi)))
  go_ret
  exact ⟨by first | rfl | (simp [errW_none, errW_some] <;> rfl) | (simp [*, errW_none, errW_some] <;> rfl), bw HB.out⟩
 subst c4
 have H1 : ((impl_isObjective.f a1).bind fun t668 => (some t668)) = some r := by rw [if_pos rfl] at H; exact H
 clear H
 have H := H1
 clear H1
 replace H := Option.bind_eq_some_iff.mp H
 obtain ⟨t668, A50, H⟩ := H
 replace H : (some t668) = some r := H
 have A5 := Aside0.mk A50
 clear A50
 obtain rfl := Option.some.inj H
 go_enter Try.func49, Try.ntmps49
 go_wp2_with (first | ((with_reducible refine gate_callee (f := 80) rfl ?_); refine goesL_ (some 6) rfl rfl Try.func80 (by kernel_rfl) rfl #[.slice A0 l0.length c0] rfl (by (try simp only [mA_]); first | done | rfl | (simp only [List.length_drop, List.length_take]; rfl)) ?_; (with_reducible refine (impl_AreScenarios.calls k _ _ l0 true _ ?side1 ?side2 A3.out).mono ?_); (case side1 => repeat (first | exact HR0.out | (with_reducible refine Kd.C_alloc ?_ _) | (with_reducible refine Kd.C_drewN ?_ _) | (with_reducible refine Kd.C_drew ?_))); (case side2 => exact HC0.out); rintro e w6 ⟨rfl, hb⟩; refine ⟨_, rfl, ?_⟩; have n0_ := Aside0.mk (below_step (bw HB.out) hb); replace HB := n0_; clear n0_; (try clear hb); (try clear hb2); (try clear hk); (try clear hi)) | (go_at_call 61; (with_reducible refine (impl_isObjective.calls a1 t668 _ A5.out).mono ?_); rintro e w' ⟨rfl, ⟨nd, rfl⟩⟩))
 go_ret
 exact ⟨by first | rfl | (simp [errW_none, errW_some] <;> rfl) | (simp [*, errW_none, errW_some] <;> rfl), bw HB.out⟩

/-! ### impl_greatest: function 51 -/
def impl_greatest.l0 : Nat → List Int → Int → Int → List Int → Int → Int → Option (Int × Int)
 | 0, _, _, _, _, _, _ => none
 | k + 1, x1, x6, x7, x17, x18, x19 => if x19 < x18 then (if 0 ≤ x19 then (if x19 < (x17.length : Int) then (if x19 < (x1.length : Int) then (if (wrap64 ((rd x17 x19) - (rd x1 x19))) > x6 then (impl_greatest.l0 k x1 (wrap64 ((rd x17 x19) - (rd x1 x19))) x19 x17 x18 (wrap64 (x19 + 1))) else (impl_greatest.l0 k x1 x6 x7 x17 x18 (wrap64 (x19 + 1)))) else (none)) else (none)) else (none)) else (some (x6, x7))
def impl_greatest.f (k : Nat) (l0 : List Int) (l1 : List Int) : Option (Int × Int) := if 0 < (l0.length : Int) then (if 0 < (l1.length : Int) then (impl_greatest.l0 k l1 (wrap64 ((rd l0 0) - (rd l1 0))) 0 l0 (l0.length : Int) 0) else (none)) else (none)
theorem impl_greatest.mono_l : ∀ k, (∀ y0 y1 y2 y3 y4 y5, LeO (impl_greatest.l0 k y0 y1 y2 y3 y4 y5) (impl_greatest.l0 (k + 1) y0 y1 y2 y3 y4 y5))
 | 0 => fun _ _ _ _ _ _ r h => by simp [impl_greatest.l0] at h
 | k + 1 => by
  have ih0 := impl_greatest.mono_l k
  ·intro y0 y1 y2 y3 y4 y5
   unfold impl_greatest.l0
   repeat' first
   | (with_reducible exact ih0 _ _ _ _ _ _)
   | (with_reducible exact LeO.refl _)
   | (with_reducible exact LeO.none _)
   | (with_reducible refine LeO.ite ?_ ?_)
   | (with_reducible refine LeO.bind ?_ (fun _ => ?_))
   | exact ih0 _ _ _ _ _ _
   | exact LeO.none _
   | refine LeO.ite ?_ ?_
   | refine LeO.bind ?_ (fun _ => ?_)
theorem impl_greatest.mono : ∀ a0 a1 k, LeO (impl_greatest.f k a0 a1) (impl_greatest.f (k + 1) a0 a1) := by
 intro a0 a1 k
 have ih0 := impl_greatest.mono_l k
 unfold impl_greatest.f
 repeat' first
   | (with_reducible exact ih0 _ _ _ _ _ _)
   | (with_reducible exact LeO.refl _)
   | (with_reducible exact LeO.none _)
   | (with_reducible refine LeO.ite ?_ ?_)
   | (with_reducible refine LeO.bind ?_ (fun _ => ?_))
   | exact ih0 _ _ _ _ _ _
   | exact LeO.none _
   | refine LeO.ite ?_ ?_
   | refine LeO.bind ?_ (fun _ => ?_)
set_option maxHeartbeats 8000000 in
set_option maxRecDepth 100000 in
theorem impl_greatest.calls (k : Nat) (A0 : Option Addr) (c0 : Nat) (l0 : List Int) (A1 : Option Addr) (c1 : Nat) (l1 : List Int) (r1 : Int) (r2 : Int) (w : World) (hr0 : Kd.C (Kd.int .i64) w A0 l0.length l0) (hc0 : l0.length ≤ c0) (hr1 : Kd.C (Kd.int .i64) w A1 l1.length l1) (hc1 : l1.length ≤ c1) (h : impl_greatest.f k l0 l1 = some (r1, r2)) :
  Calls Try.prog 51 #[.slice A0 l0.length c0, .slice A1 l1.length c1] w fun e w' => e = .returned (.tuple #[.int .i64 r1, .int .i64 r2]) ∧ Drawn0 w w' := by
 have HR0 := Aside0.mk hr0
 have HC0 := Aside0.mk hc0
 clear hr0 hc0
 have HR1 := Aside0.mk hr1
 have HC1 := Aside0.mk hc1
 clear hr1 hc1
 have H : (if 0 < (l0.length : Int) then (if 0 < (l1.length : Int) then (impl_greatest.l0 k l1 (wrap64 ((rd l0 0) - (rd l1 0))) 0 l0 (l0.length : Int) 0) else (none)) else (none)) = some (r1, r2) := h
 clear h
 by_cases c3 : 0 < (l0.length : Int)
 rotate_left
 ·rw [if_neg c3] at H
  exact absurd H (by simp)
 rw [if_pos c3] at H
 have c3b0 : decide (0 < (l0.length : Int)) = true := decide_eq_true c3
 have c3b1 : decide (0 < l0.length) = true := decide_eq_true (by omega)
 clear c3
 by_cases c4 : 0 < (l1.length : Int)
 rotate_left
 ·rw [if_neg c4] at H
  exact absurd H (by simp)
 rw [if_pos c4] at H
 have c4b0 : decide (0 < (l1.length : Int)) = true := decide_eq_true c4
 have c4b1 : decide (0 < l1.length) = true := decide_eq_true (by omega)
 clear c4
 have H' := Aside0.mk H
 clear H
 have p669 : 0 ≤ (0 : Int) := (by omega)
 have q669 : 0 < (l0.length : Int) := of_decide_eq_true (by first | (with_reducible assumption) | assumption)
 obtain ⟨ad669, e669, hx669_0⟩ := Kd.at_int HR0.out 0 p669 q669
 cases e669
 have qi669 : (0 < l0.length) = True := eq_true (by omega)
 (try rw [show ((0 : Int)).toNat = 0 from rfl] at hx669_0)
 (try rw [Addr.add_zero'] at hx669_0)
 replace p669 := eq_true p669
 replace q669 := eq_true q669
 have p670 : 0 ≤ (0 : Int) := (by omega)
 have q670 : 0 < (l1.length : Int) := of_decide_eq_true (by first | (with_reducible assumption) | assumption)
 obtain ⟨ad670, e670, hx670_0⟩ := Kd.at_int HR1.out 0 p670 q670
 cases e670
 have qi670 : (0 < l1.length) = True := eq_true (by omega)
 (try rw [show ((0 : Int)).toNat = 0 from rfl] at hx670_0)
 (try rw [Addr.add_zero'] at hx670_0)
 replace p670 := eq_true p670
 replace q670 := eq_true q670
 go_enter Try.func51, Try.ntmps51
 go_wp2
 repeat (go_quiet (fail); try go_wp2)
 go_loopg [6, 7, 19] k (fun kq v6 v7 v19 w' => ∃ (x6_1 : Int) (x7_1 : Int) (x19_1 : Int), v6 = .int .i64 x6_1 ∧ v7 = .int .i64 x7_1 ∧ v19 = .int .i64 x19_1 ∧ Aside0 (impl_greatest.l0 kq l1 x6_1 x7_1 l0 (l0.length : Int) x19_1 = some (r1, r2)) ∧ Aside0 (kq ≤ k) ∧ Drawn0 w w')
 case atStart => exact ⟨(wrap64 ((rd l0 0) - (rd l1 0))), (0), (0), (by first | rfl | (simp; done) | (simp [*]; done)), (by first | rfl | (simp; done) | (simp [*]; done)), (by first | rfl | (simp; done) | (simp [*]; done)), H', ⟨Nat.le_refl _⟩, by repeat (first | exact Drawn0.refl _ | apply Drawn0.step)⟩
 case round =>
  clear H'
  try clear c1
  try clear p2
  try clear c3
  try clear c3b0
  try clear c3b1
  try clear c4
  try clear c4b0
  try clear c4b1
  try clear hx669_0
  try clear hx670_0
  try clear p669
  try clear p670
  try clear q669
  try clear q670
  obtain ⟨x6_1, x7_1, x19_1, rfl, rfl, rfl, HA, HK1, ⟨m1, rfl⟩⟩ := hrel
  cases gk with
  | zero => exact absurd HA.out (by simp [impl_greatest.l0])
  | succ k1 =>
   have H := HA.out
   clear HA
   simp only [impl_greatest.l0] at H
   by_cases c5 : x19_1 < (l0.length : Int)
   rotate_left
   ·rw [if_neg c5] at H
    have c5b0 : decide (x19_1 < (l0.length : Int)) = false := decide_eq_false c5
    clear c5
    simp only [Option.some.injEq, Prod.mk.injEq] at H
    obtain ⟨rfl, rfl⟩ := H
    go_wp2
    repeat (go_quiet (fail); try go_wp2)
    go_ret2
    exact ⟨by first | rfl | (simp; done) | (simp [*]; done), by repeat (first | exact Drawn0.refl _ | apply Drawn0.step)⟩
   rw [if_pos c5] at H
   have c5b0 : decide (x19_1 < (l0.length : Int)) = true := decide_eq_true c5
   clear c5
   by_cases c6 : 0 ≤ x19_1
   rotate_left
   ·rw [if_neg c6] at H
    exact absurd H (by simp)
   rw [if_pos c6] at H
   have c6b0 : decide (0 ≤ x19_1) = true := decide_eq_true c6
   clear c6
   by_cases c7 : x19_1 < (l0.length : Int)
   rotate_left
   ·rw [if_neg c7] at H
    exact absurd H (by simp)
   rw [if_pos c7] at H
   have c7b0 : decide (x19_1 < (l0.length : Int)) = true := decide_eq_true c7
   clear c7
   by_cases c8 : x19_1 < (l1.length : Int)
   rotate_left
   ·rw [if_neg c8] at H
    exact absurd H (by simp)
   rw [if_pos c8] at H
   have c8b0 : decide (x19_1 < (l1.length : Int)) = true := decide_eq_true c8
   clear c8
   by_cases c9 : (wrap64 ((rd l0 x19_1) - (rd l1 x19_1))) > x6_1
   rotate_left
   ·rw [if_neg c9] at H
    have c9b0 : decide (x6_1 < (wrap64 ((rd l0 x19_1) - (rd l1 x19_1)))) = false := decide_eq_false c9
    clear c9
    have H' := Aside0.mk H
    clear H
    have p671 : 0 ≤ (x19_1 : Int) := of_decide_eq_true (by first | (with_reducible assumption) | assumption)
    have q671 : x19_1 < (l0.length : Int) := of_decide_eq_true (by first | (with_reducible assumption) | assumption)
    obtain ⟨ad671, e671, hx671_0⟩ := Kd.at_int HR0.out x19_1 p671 q671
    obtain rfl : ad669 = ad671 := (by injection e671)
    replace p671 := eq_true p671
    replace q671 := eq_true q671
    have p672 : 0 ≤ (x19_1 : Int) := of_decide_eq_true (by first | (with_reducible assumption) | assumption)
    have q672 : x19_1 < (l1.length : Int) := of_decide_eq_true (by first | (with_reducible assumption) | assumption)
    obtain ⟨ad672, e672, hx672_0⟩ := Kd.at_int HR1.out x19_1 p672 q672
    obtain rfl : ad670 = ad672 := (by injection e672)
    replace p672 := eq_true p672
    replace q672 := eq_true q672
    go_wp2
    repeat (go_quiet (fail); try go_wp2)
    go_roundg k1
    case measure => have := HK1.out; omega
    case rel => exact ⟨(x6_1), (x7_1), (wrap64 (x19_1 + 1)), (by first | rfl | (simp; done) | (simp [*]; done)), (by first | rfl | (simp; done) | (simp [*]; done)), (by first | rfl | (simp; done) | (simp [*]; done)), H', ⟨by have := HK1.out; omega⟩, by repeat (first | exact Drawn0.refl _ | apply Drawn0.step)⟩
   rw [if_pos c9] at H
   have c9b0 : decide (x6_1 < (wrap64 ((rd l0 x19_1) - (rd l1 x19_1)))) = true := decide_eq_true c9
   clear c9
   have H' := Aside0.mk H
   clear H
   have p671 : 0 ≤ (x19_1 : Int) := of_decide_eq_true (by first | (with_reducible assumption) | assumption)
   have q671 : x19_1 < (l0.length : Int) := of_decide_eq_true (by first | (with_reducible assumption) | assumption)
   obtain ⟨ad671, e671, hx671_0⟩ := Kd.at_int HR0.out x19_1 p671 q671
   obtain rfl : ad669 = ad671 := (by injection e671)
   replace p671 := eq_true p671
   replace q671 := eq_true q671
   have p672 : 0 ≤ (x19_1 : Int) := of_decide_eq_true (by first | (with_reducible assumption) | assumption)
   have q672 : x19_1 < (l1.length : Int) := of_decide_eq_true (by first | (with_reducible assumption) | assumption)
   obtain ⟨ad672, e672, hx672_0⟩ := Kd.at_int HR1.out x19_1 p672 q672
   obtain rfl : ad670 = ad672 := (by injection e672)
   replace p672 := eq_true p672
   replace q672 := eq_true q672
   have p673 : 0 ≤ (x19_1 : Int) := of_decide_eq_true (by first | (with_reducible assumption) | assumption)
   have q673 : x19_1 < (l1.length : Int) := of_decide_eq_true (by first | (with_reducible assumption) | assumption)
   obtain ⟨ad673, e673, hx673_0⟩ := Kd.at_int HR1.out x19_1 p673 q673
   obtain rfl : ad670 = ad673 := (by injection e673)
   replace p673 := eq_true p673
   replace q673 := eq_true q673
   go_wp2
   repeat (go_quiet (fail); try go_wp2)
   go_roundg k1
   case measure => have := HK1.out; omega
   case rel => exact ⟨(wrap64 ((rd l0 x19_1) - (rd l1 x19_1))), (x19_1), (wrap64 (x19_1 + 1)), (by first | rfl | (simp; done) | (simp [*]; done)), (by first | rfl | (simp; done) | (simp [*]; done)), (by first | rfl | (simp; done) | (simp [*]; done)), H', ⟨by have := HK1.out; omega⟩, by repeat (first | exact Drawn0.refl _ | apply Drawn0.step)⟩

/-! ### impl_scenarioValues: function 52 -/
def impl_scenarioValues.l0 : Nat → List Int → Int → List Int → List (List (S61)) → Int → Int → Option (List Int)
 | 0, _, _, _, _, _, _ => none
 | k + 1, x1, x2, x7, x10, x11, x12 => if x12 < x11 then (if 0 ≤ x12 then (if x12 < (x10.length : Int) then ((impl_valueOf.f k (rd_L4 x10 x12) x1 x2).bind fun t675 => (if x7.length < 17592186044416 then (impl_scenarioValues.l0 k x1 x2 (x7 ++ [t675]) x10 x11 (wrap64 (x12 + 1))) else (none))) else (none)) else (none)) else (some x7)
def impl_scenarioValues.f (k : Nat) (l0 : List (List (S61))) (l1 : List Int) (a2 : Int) : Option (List Int) := impl_scenarioValues.l0 k l1 a2 ([] : List Int) l0 (l0.length : Int) 0
theorem impl_scenarioValues.mono_l : ∀ k, (∀ y0 y1 y2 y3 y4 y5, LeO (impl_scenarioValues.l0 k y0 y1 y2 y3 y4 y5) (impl_scenarioValues.l0 (k + 1) y0 y1 y2 y3 y4 y5))
 | 0 => fun _ _ _ _ _ _ r h => by simp [impl_scenarioValues.l0] at h
 | k + 1 => by
  have ih0 := impl_scenarioValues.mono_l k
  ·intro y0 y1 y2 y3 y4 y5
   unfold impl_scenarioValues.l0
   repeat' first
   | (with_reducible exact ih0 _ _ _ _ _ _)
   | (with_reducible exact impl_valueOf.mono _ _ _ _)
   | (with_reducible exact LeO.refl _)
   | (with_reducible exact LeO.none _)
   | (with_reducible refine LeO.ite ?_ ?_)
   | (with_reducible refine LeO.bind ?_ (fun _ => ?_))
   | exact ih0 _ _ _ _ _ _
   | exact impl_valueOf.mono _ _ _ _
   | exact LeO.none _
   | refine LeO.ite ?_ ?_
   | refine LeO.bind ?_ (fun _ => ?_)
theorem impl_scenarioValues.mono : ∀ a0 a1 a2 k, LeO (impl_scenarioValues.f k a0 a1 a2) (impl_scenarioValues.f (k + 1) a0 a1 a2) := by
 intro a0 a1 a2 k
 have ih0 := impl_scenarioValues.mono_l k
 unfold impl_scenarioValues.f
 repeat' first
   | (with_reducible exact ih0 _ _ _ _ _ _)
   | (with_reducible exact impl_valueOf.mono _ _ _ _)
   | (with_reducible exact LeO.refl _)
   | (with_reducible exact LeO.none _)
   | (with_reducible refine LeO.ite ?_ ?_)
   | (with_reducible refine LeO.bind ?_ (fun _ => ?_))
   | exact ih0 _ _ _ _ _ _
   | exact impl_valueOf.mono _ _ _ _
   | exact LeO.none _
   | refine LeO.ite ?_ ?_
   | refine LeO.bind ?_ (fun _ => ?_)
set_option maxHeartbeats 8000000 in
set_option maxRecDepth 100000 in
theorem impl_scenarioValues.calls (k : Nat) (A0 : Option Addr) (c0 : Nat) (l0 : List (List (S61))) (A1 : Option Addr) (c1 : Nat) (l1 : List Int) (a2 : Int) (r : List Int) (w : World) (hr0 : Kd.C (Kd.slice 61 k61) w A0 l0.length l0) (hc0 : l0.length ≤ c0) (hr1 : Kd.C (Kd.int .i64) w A1 l1.length l1) (hc1 : l1.length ≤ c1) (h : impl_scenarioValues.f k l0 l1 a2 = some r) :
  Calls Try.prog 52 #[.slice A0 l0.length c0, .slice A1 l1.length c1, .int .i64 a2] w fun e w' => ∃ v0_ : Value, e = .returned (v0_) ∧ Kd.R (Kd.int .i64) 3 w' w.heap.size (fun _ => True) v0_ r ∧ Below w.heap.size w w' := by
 have HR0 := Aside0.mk hr0
 have HC0 := Aside0.mk hc0
 clear hr0 hc0
 have HR1 := Aside0.mk hr1
 have HC1 := Aside0.mk hc1
 clear hr1 hc1
 have HB := Aside0.mk (Below.refl w.heap.size w)
 have H : (impl_scenarioValues.l0 k l1 a2 ([] : List Int) l0 (l0.length : Int) 0) = some r := h
 clear h
 have H' := Aside0.mk H
 clear H
 go_enter Try.func52, Try.ntmps52
 go_wp2
 go_loopg [7, 12] k (fun kq v7 v12 w' => ∃ (x7_1 : List Int) (x12_1 : Int), v12 = .int .i64 x12_1 ∧ Aside0 (impl_scenarioValues.l0 kq l1 a2 x7_1 l0 (l0.length : Int) x12_1 = some r) ∧ Aside0 (kq ≤ k) ∧ Aside0 (Kd.R (Kd.int .i64) 3 w' w.heap.size (fun _ => True) v7 x7_1) ∧ Aside0 (Below w.heap.size w w'))
 case atStart => exact ⟨(([] : List Int)), (0), (by first | rfl | (simp; done) | (simp [*]; done)), H', ⟨Nat.le_refl _⟩, ⟨by first | exact Kd.R_nil _ _ _ _ _ | exact Kd.N_nil _ _ _ _ _ | exact Kd.V_nil _ _ _ _ _ | exact Kd.Q_nil _ _ _ _ _ | exact Kd.S_nil _ _ _ _ _⟩, ⟨bw HB.out⟩⟩
 case round =>
  clear H'
  try clear c1
  try clear p2
  obtain ⟨x7_1, x12_1, rfl, HA, HK1, HO_7, HB⟩ := hrel
  cases gk with
  | zero => exact absurd HA.out (by simp [impl_scenarioValues.l0])
  | succ k1 =>
   have H := HA.out
   clear HA
   simp only [impl_scenarioValues.l0] at H
   by_cases c4 : x12_1 < (l0.length : Int)
   rotate_left
   ·rw [if_neg c4] at H
    have c4b0 : decide (x12_1 < (l0.length : Int)) = false := decide_eq_false c4
    clear c4
    obtain rfl := Option.some.inj H
    go_wp2
    go_ret
    exact ⟨_, by first | rfl | (simp [errW_none, errW_some] <;> rfl) | (simp [*, errW_none, errW_some] <;> rfl), by (with_reducible repeat (first | apply Kd.R_alloc | apply Kd.R_drewN | apply Kd.R_drew)); exact HO_7.out, bw HB.out⟩
   rw [if_pos c4] at H
   have c4b0 : decide (x12_1 < (l0.length : Int)) = true := decide_eq_true c4
   clear c4
   by_cases c5 : 0 ≤ x12_1
   rotate_left
   ·rw [if_neg c5] at H
    exact absurd H (by simp)
   rw [if_pos c5] at H
   have c5b0 : decide (0 ≤ x12_1) = true := decide_eq_true c5
   clear c5
   by_cases c6 : x12_1 < (l0.length : Int)
   rotate_left
   ·rw [if_neg c6] at H
    exact absurd H (by simp)
   rw [if_pos c6] at H
   have c6b0 : decide (x12_1 < (l0.length : Int)) = true := decide_eq_true c6
   clear c6
   replace H := Option.bind_eq_some_iff.mp H
   obtain ⟨t675, A70, H⟩ := H
   replace H : (if x7_1.length < 17592186044416 then (impl_scenarioValues.l0 k1 l1 a2 (x7_1 ++ [t675]) l0 (l0.length : Int) (wrap64 (x12_1 + 1))) else (none)) = some r := H
   have A7 := Aside0.mk A70
   clear A70
   by_cases c8 : x7_1.length < 17592186044416
   rotate_left
   ·rw [if_neg c8] at H
    exact absurd H (by simp)
   rw [if_pos c8] at H
   have LMc8 := Aside0.mk c8
   clear c8
   obtain ⟨y676, hy676⟩ : ∃ y_ : List Int, y_ = (x7_1 ++ [t675]) := ⟨_, rfl⟩
   replace H : (impl_scenarioValues.l0 k1 l1 a2 y676 l0 (l0.length : Int) (wrap64 (x12_1 + 1))) = some r := by first | (rw [hy676]; with_reducible exact H) | (have H2_ := (Option.bind_some _ _).symm.trans H; rw [hy676]; with_reducible exact H2_) | (have H2_ := (Option.bind_some _ _).symm.trans H; with_reducible exact H2_) | with_reducible exact H | (rw [hy676]; exact H) | exact H
   have Ny676 := Aside0.mk hy676
   clear hy676
   have H' := Aside0.mk H
   clear H
   have p674 : 0 ≤ (x12_1 : Int) := of_decide_eq_true (by first | (with_reducible assumption) | assumption)
   have q674 : x12_1 < (l0.length : Int) := of_decide_eq_true (by first | (with_reducible assumption) | assumption)
   obtain ⟨ad674, A674_0, c674_0, e674, hx674_0, hl674_0, hi674_0⟩ := at_L4 HR0.out x12_1 p674 q674
   cases e674
   replace hx674_0 := (HB.out.cell (World.block_lt_of_cell? w _ hx674_0)).trans hx674_0
   have HR674_0 := Aside0.mk hi674_0
   have HC674_0 := Aside0.mk hl674_0
   clear hi674_0 hl674_0
   replace p674 := eq_true p674
   replace q674 := eq_true q674
   go_wp2_with (first | ((with_reducible refine gate_callee (f := 33) rfl ?_); refine goesL_ (some 20) rfl rfl Try.func33 (by kernel_rfl) rfl #[.slice A674_0 (rd_L4 l0 x12_1).length c674_0, .slice A1 l1.length c1, .int .i64 a2] rfl (by (try simp only [mA_]); first | done | rfl | (simp only [List.length_drop, List.length_take]; rfl)) ?_; (with_reducible refine (impl_valueOf.calls k1 _ _ (rd_L4 l0 x12_1) _ _ l1 a2 t675 _ ?side1 ?side2 ?side3 ?side4 A7.out).mono ?_); (case side1 => first | exact bC HR674_0.out HB.out | exact Kd.C_below HR674_0.out HB.out); (case side2 => exact HC674_0.out); (case side3 => first | exact bC HR1.out HB.out | exact Kd.C_below HR1.out HB.out); (case side4 => exact HC1.out); rintro e w9 ⟨rfl, hb⟩; refine ⟨_, rfl, ?_⟩; have n0_ := Aside0.mk (Kd.R_below (bR HO_7.out) hb); have n1_ := Aside0.mk (below_step (bw HB.out) hb); replace HO_7 := n0_; replace HB := n1_; clear n0_ n1_; (try clear hb); (try clear hb2); (try clear hk); (try clear hi)) | ((with_reducible refine gate_builtin (b := .append) (xs := #[.tmp 16, .tmp 21]) rfl ?_); at_builtin; refine Kd.R_append (Kd.int .i64) (w0 := w) w.heap.size rfl (.tmp 16) (.tmp 21) 23 3 (.int .i64 0) 8 rfl Try.underlying23 info3 rfl (by decide) (by omega) u7 x7_1 t675 [.int .i64 t675] (fun _ => True) (fun _ => False) rfl rfl ?aP (fun _ hk => hk.elim) ?aF ?aO ?aB ?aS ?aL ?_; (case aP => exact rfl); (case aB => exact (bw HB.out)); (case aF => exact (fun _ _ => trivial)); (case aO => exact (bR HO_7.out)); (case aS => exact (below_size (bw HB.out))); (case aL => have := LMc8.out; omega); intro v677 w10 ho hb hg hat; rw [← Ny676.out] at ho; have n0_ := Aside0.mk (hb); have n1_ := Aside0.mk (ho); clear HO_7; replace HB := n0_; have HO678 := n1_; clear n0_ n1_; clear ho hb hg hat))
   go_roundg k1
   case measure => have := HK1.out; omega
   case rel => exact ⟨(y676), (wrap64 (x12_1 + 1)), (by first | rfl | (simp; done) | (simp [*]; done)), H', ⟨by have := HK1.out; omega⟩, ⟨bR HO678.out⟩, ⟨bw HB.out⟩⟩

/-! ### impl_bestValues: function 53 -/
def impl_bestValues.l0 : Nat → Int → List Int → List (List (S61)) → Int → Int → Option (List Int)
 | 0, _, _, _, _, _ => none
 | k + 1, x1, x5, x11, x12, x13 => if x13 < x12 then (if 0 ≤ x13 then (if x13 < (x11.length : Int) then ((impl_best.f k (rd_L4 x11 x13) x1).bind fun bt680 => (if x5.length < 17592186044416 then (impl_bestValues.l0 k x1 (x5 ++ [bt680.2.1]) x11 x12 (wrap64 (x13 + 1))) else (none))) else (none)) else (none)) else (some x5)
def impl_bestValues.f (k : Nat) (l0 : List (List (S61))) (a1 : Int) : Option (List Int) := impl_bestValues.l0 k a1 ([] : List Int) l0 (l0.length : Int) 0
theorem impl_bestValues.mono_l : ∀ k, (∀ y0 y1 y2 y3 y4, LeO (impl_bestValues.l0 k y0 y1 y2 y3 y4) (impl_bestValues.l0 (k + 1) y0 y1 y2 y3 y4))
 | 0 => fun _ _ _ _ _ r h => by simp [impl_bestValues.l0] at h
 | k + 1 => by
  have ih0 := impl_bestValues.mono_l k
  ·intro y0 y1 y2 y3 y4
   unfold impl_bestValues.l0
   repeat' first
   | (with_reducible exact ih0 _ _ _ _ _)
   | (with_reducible exact impl_best.mono _ _ _)
   | (with_reducible exact LeO.refl _)
   | (with_reducible exact LeO.none _)
   | (with_reducible refine LeO.ite ?_ ?_)
   | (with_reducible refine LeO.bind ?_ (fun _ => ?_))
   | exact ih0 _ _ _ _ _
   | exact impl_best.mono _ _ _
   | exact LeO.none _
   | refine LeO.ite ?_ ?_
   | refine LeO.bind ?_ (fun _ => ?_)
theorem impl_bestValues.mono : ∀ a0 a1 k, LeO (impl_bestValues.f k a0 a1) (impl_bestValues.f (k + 1) a0 a1) := by
 intro a0 a1 k
 have ih0 := impl_bestValues.mono_l k
 unfold impl_bestValues.f
 repeat' first
   | (with_reducible exact ih0 _ _ _ _ _)
   | (with_reducible exact impl_best.mono _ _ _)
   | (with_reducible exact LeO.refl _)
   | (with_reducible exact LeO.none _)
   | (with_reducible refine LeO.ite ?_ ?_)
   | (with_reducible refine LeO.bind ?_ (fun _ => ?_))
   | exact ih0 _ _ _ _ _
   | exact impl_best.mono _ _ _
   | exact LeO.none _
   | refine LeO.ite ?_ ?_
   | refine LeO.bind ?_ (fun _ => ?_)
set_option maxHeartbeats 8000000 in
set_option maxRecDepth 100000 in
theorem impl_bestValues.calls (k : Nat) (A0 : Option Addr) (c0 : Nat) (l0 : List (List (S61))) (a1 : Int) (r : List Int) (w : World) (hr0 : Kd.C (Kd.slice 61 k61) w A0 l0.length l0) (hc0 : l0.length ≤ c0) (h : impl_bestValues.f k l0 a1 = some r) :
  Calls Try.prog 53 #[.slice A0 l0.length c0, .int .i64 a1] w fun e w' => ∃ v0_ : Value, e = .returned (v0_) ∧ Kd.R (Kd.int .i64) 3 w' w.heap.size (fun _ => True) v0_ r ∧ Below w.heap.size w w' := by
 have HR0 := Aside0.mk hr0
 have HC0 := Aside0.mk hc0
 clear hr0 hc0
 have HB := Aside0.mk (Below.refl w.heap.size w)
 have H : (impl_bestValues.l0 k a1 ([] : List Int) l0 (l0.length : Int) 0) = some r := h
 clear h
 have H' := Aside0.mk H
 clear H
 go_enter Try.func53, Try.ntmps53
 go_wp2
 go_loopg [5, 13] k (fun kq v5 v13 w' => ∃ (x5_1 : List Int) (x13_1 : Int), v13 = .int .i64 x13_1 ∧ Aside0 (impl_bestValues.l0 kq a1 x5_1 l0 (l0.length : Int) x13_1 = some r) ∧ Aside0 (kq ≤ k) ∧ Aside0 (Kd.R (Kd.int .i64) 3 w' w.heap.size (fun _ => True) v5 x5_1) ∧ Aside0 (Below w.heap.size w w'))
 case atStart => exact ⟨(([] : List Int)), (0), (by first | rfl | (simp; done) | (simp [*]; done)), H', ⟨Nat.le_refl _⟩, ⟨by first | exact Kd.R_nil _ _ _ _ _ | exact Kd.N_nil _ _ _ _ _ | exact Kd.V_nil _ _ _ _ _ | exact Kd.Q_nil _ _ _ _ _ | exact Kd.S_nil _ _ _ _ _⟩, ⟨bw HB.out⟩⟩
 case round =>
  clear H'
  try clear p2
  obtain ⟨x5_1, x13_1, rfl, HA, HK1, HO_5, HB⟩ := hrel
  cases gk with
  | zero => exact absurd HA.out (by simp [impl_bestValues.l0])
  | succ k1 =>
   have H := HA.out
   clear HA
   simp only [impl_bestValues.l0] at H
   by_cases c3 : x13_1 < (l0.length : Int)
   rotate_left
   ·rw [if_neg c3] at H
    have c3b0 : decide (x13_1 < (l0.length : Int)) = false := decide_eq_false c3
    clear c3
    obtain rfl := Option.some.inj H
    go_wp2
    go_ret
    exact ⟨_, by first | rfl | (simp [errW_none, errW_some] <;> rfl) | (simp [*, errW_none, errW_some] <;> rfl), by (with_reducible repeat (first | apply Kd.R_alloc | apply Kd.R_drewN | apply Kd.R_drew)); exact HO_5.out, bw HB.out⟩
   rw [if_pos c3] at H
   have c3b0 : decide (x13_1 < (l0.length : Int)) = true := decide_eq_true c3
   clear c3
   by_cases c4 : 0 ≤ x13_1
   rotate_left
   ·rw [if_neg c4] at H
    exact absurd H (by simp)
   rw [if_pos c4] at H
   have c4b0 : decide (0 ≤ x13_1) = true := decide_eq_true c4
   clear c4
   by_cases c5 : x13_1 < (l0.length : Int)
   rotate_left
   ·rw [if_neg c5] at H
    exact absurd H (by simp)
   rw [if_pos c5] at H
   have c5b0 : decide (x13_1 < (l0.length : Int)) = true := decide_eq_true c5
   clear c5
   replace H := Option.bind_eq_some_iff.mp H
   obtain ⟨⟨t680, t681, t682⟩, A60, H⟩ := H
   replace H : (if x5_1.length < 17592186044416 then (impl_bestValues.l0 k1 a1 (x5_1 ++ [t681]) l0 (l0.length : Int) (wrap64 (x13_1 + 1))) else (none)) = some r := H
   have A6 := Aside0.mk A60
   clear A60
   by_cases c7 : x5_1.length < 17592186044416
   rotate_left
   ·rw [if_neg c7] at H
    exact absurd H (by simp)
   rw [if_pos c7] at H
   have LMc7 := Aside0.mk c7
   clear c7
   obtain ⟨y685, hy685⟩ : ∃ y_ : List Int, y_ = (x5_1 ++ [t681]) := ⟨_, rfl⟩
   replace H : (impl_bestValues.l0 k1 a1 y685 l0 (l0.length : Int) (wrap64 (x13_1 + 1))) = some r := by first | (rw [hy685]; with_reducible exact H) | (have H2_ := (Option.bind_some _ _).symm.trans H; rw [hy685]; with_reducible exact H2_) | (have H2_ := (Option.bind_some _ _).symm.trans H; with_reducible exact H2_) | with_reducible exact H | (rw [hy685]; exact H) | exact H
   have Ny685 := Aside0.mk hy685
   clear hy685
   have H' := Aside0.mk H
   clear H
   have p679 : 0 ≤ (x13_1 : Int) := of_decide_eq_true (by first | (with_reducible assumption) | assumption)
   have q679 : x13_1 < (l0.length : Int) := of_decide_eq_true (by first | (with_reducible assumption) | assumption)
   obtain ⟨ad679, A679_0, c679_0, e679, hx679_0, hl679_0, hi679_0⟩ := at_L4 HR0.out x13_1 p679 q679
   cases e679
   replace hx679_0 := (HB.out.cell (World.block_lt_of_cell? w _ hx679_0)).trans hx679_0
   have HR679_0 := Aside0.mk hi679_0
   have HC679_0 := Aside0.mk hl679_0
   clear hi679_0 hl679_0
   replace p679 := eq_true p679
   replace q679 := eq_true q679
   go_wp2_with (first | ((with_reducible refine gate_callee (f := 32) rfl ?_); refine goesL_ (some 20) rfl rfl Try.func32 (by kernel_rfl) rfl #[.slice A679_0 (rd_L4 l0 x13_1).length c679_0, .int .i64 a1] rfl (by (try simp only [mA_]); first | done | rfl | (simp only [List.length_drop, List.length_take]; rfl)) ?_; (with_reducible refine (impl_best.calls k1 _ _ (rd_L4 l0 x13_1) a1 t680 t681 t682 _ ?side1 ?side2 A6.out).mono ?_); (case side1 => first | exact bC HR679_0.out HB.out | exact Kd.C_below HR679_0.out HB.out); (case side2 => exact HC679_0.out); rintro e w8 ⟨v683, rfl, ho0, hb⟩; refine ⟨_, rfl, ?_⟩; have n0_ := Aside0.mk (Kd.R_elder' (bR HO_5.out) (Kd.R_base ho0) hb); have n1_ := Aside0.mk (Kd.R_lower (Kd.R_new' ho0 (Kd.R_lt (bR HO_5.out))) (below_size (bw HB.out))); have n2_ := Aside0.mk (below_step (bw HB.out) hb); replace HO_5 := n0_; have HO684 := n1_; replace HB := n2_; clear n0_ n1_ n2_; (try clear hb); (try clear hb2); (try clear hk); (try clear hi); (try clear ho0)) | ((with_reducible refine gate_builtin (b := .append) (xs := #[.tmp 24, .tmp 26]) rfl ?_); at_builtin; refine Kd.R_append (Kd.int .i64) (w0 := w) w.heap.size rfl (.tmp 24) (.tmp 26) 23 3 (.int .i64 0) 8 rfl Try.underlying23 info3 rfl (by decide) (by omega) u5 x5_1 t681 [.int .i64 t681] (fun k_ => some k_ ≠ (v683 : Value).ownBlock) (fun _ => False) rfl rfl ?aP (fun _ hk => hk.elim) ?aF ?aO ?aB ?aS ?aL ?_; (case aP => exact rfl); (case aB => exact (bw HB.out)); (case aF => exact (fun k_ hk => Kd.fresh' (Kd.R_lt (bR HO684.out)) k_ hk)); (case aO => exact (by (with_reducible repeat (first | apply Kd.R_alloc | apply Kd.R_drewN | apply Kd.R_drew)); exact Kd.R_mono HO_5.out (fun _ hk => hk.2))); (case aS => exact (below_size (bw HB.out))); (case aL => have := LMc7.out; omega); intro v686 w9 ho hb hg hat; rw [← Ny685.out] at ho; have n0_ := Aside0.mk (Kd.R_after (ok := (fun _ => True)) (bR HO684.out) hg hat); have n1_ := Aside0.mk (hb); have n2_ := Aside0.mk (ho); clear HO_5; replace HO684 := n0_; replace HB := n1_; have HO687 := n2_; clear n0_ n1_ n2_; clear ho hb hg hat))
   go_roundg k1
   case measure => have := HK1.out; omega
   case rel => exact ⟨(y685), (wrap64 (x13_1 + 1)), (by first | rfl | (simp; done) | (simp [*]; done)), H', ⟨by have := HK1.out; omega⟩, ⟨by (with_reducible repeat (first | apply Kd.R_alloc | apply Kd.R_drewN | apply Kd.R_drew)); exact Kd.R_mono HO687.out (fun _ hk => trivial)⟩, ⟨bw HB.out⟩⟩

/-! ### impl_GreatestRegret: function 24 -/
def impl_GreatestRegret.j0 : Nat → List (List (S61)) → List Int → Int → Bool → Option (Int × Int × Bool)
 | 0, _, _, _, _ => none
 | k + 1, x0, x1, x2, x23 => if x23 = true then (some (0, 0, false)) else ((impl_scenarioValues.f k x0 x1 x2).bind fun t691 => ((impl_bestValues.f k x0 x2).bind fun t694 => ((impl_greatest.f k t691 t694).bind fun bt697 => (some (bt697.1, bt697.2, true)))))
def impl_GreatestRegret.f (k : Nat) (l0 : List (List (S61))) (l1 : List Int) (a2 : Int) : Option (Int × Int × Bool) := (impl_areRobust.f k l0 a2).bind fun t688 => (if t688 = true then (if 0 < (l0.length : Int) then ((impl_isOrder.f k ((rd_L4 l0 0).length : Int) l1).bind fun t690 => (impl_GreatestRegret.j0 k l0 l1 a2 (!t690))) else (none)) else (impl_GreatestRegret.j0 k l0 l1 a2 true))
theorem impl_GreatestRegret.mono_l : ∀ k, (∀ y0 y1 y2 y3, LeO (impl_GreatestRegret.j0 k y0 y1 y2 y3) (impl_GreatestRegret.j0 (k + 1) y0 y1 y2 y3))
 | 0 => fun _ _ _ _ r h => by simp [impl_GreatestRegret.j0] at h
 | k + 1 => by
  have ih0 := impl_GreatestRegret.mono_l k
  ·intro y0 y1 y2 y3
   unfold impl_GreatestRegret.j0
   repeat' first
   | (with_reducible exact ih0 _ _ _ _)
   | (with_reducible exact impl_areRobust.mono _ _ _)
   | (with_reducible exact impl_bestValues.mono _ _ _)
   | (with_reducible exact impl_greatest.mono _ _ _)
   | (with_reducible exact impl_isOrder.mono _ _ _)
   | (with_reducible exact impl_scenarioValues.mono _ _ _ _)
   | (with_reducible exact LeO.refl _)
   | (with_reducible exact LeO.none _)
   | (with_reducible refine LeO.ite ?_ ?_)
   | (with_reducible refine LeO.bind ?_ (fun _ => ?_))
   | exact ih0 _ _ _ _
   | exact impl_areRobust.mono _ _ _
   | exact impl_bestValues.mono _ _ _
   | exact impl_greatest.mono _ _ _
   | exact impl_isOrder.mono _ _ _
   | exact impl_scenarioValues.mono _ _ _ _
   | exact LeO.none _
   | refine LeO.ite ?_ ?_
   | refine LeO.bind ?_ (fun _ => ?_)
theorem impl_GreatestRegret.mono : ∀ a0 a1 a2 k, LeO (impl_GreatestRegret.f k a0 a1 a2) (impl_GreatestRegret.f (k + 1) a0 a1 a2) := by
 intro a0 a1 a2 k
 have ih0 := impl_GreatestRegret.mono_l k
 unfold impl_GreatestRegret.f
 repeat' first
   | (with_reducible exact ih0 _ _ _ _)
   | (with_reducible exact impl_areRobust.mono _ _ _)
   | (with_reducible exact impl_bestValues.mono _ _ _)
   | (with_reducible exact impl_greatest.mono _ _ _)
   | (with_reducible exact impl_isOrder.mono _ _ _)
   | (with_reducible exact impl_scenarioValues.mono _ _ _ _)
   | (with_reducible exact LeO.refl _)
   | (with_reducible exact LeO.none _)
   | (with_reducible refine LeO.ite ?_ ?_)
   | (with_reducible refine LeO.bind ?_ (fun _ => ?_))
   | exact ih0 _ _ _ _
   | exact impl_areRobust.mono _ _ _
   | exact impl_bestValues.mono _ _ _
   | exact impl_greatest.mono _ _ _
   | exact impl_isOrder.mono _ _ _
   | exact impl_scenarioValues.mono _ _ _ _
   | exact LeO.none _
   | refine LeO.ite ?_ ?_
   | refine LeO.bind ?_ (fun _ => ?_)
set_option maxHeartbeats 8000000 in
set_option maxRecDepth 100000 in
theorem impl_GreatestRegret.calls (k : Nat) (A0 : Option Addr) (c0 : Nat) (l0 : List (List (S61))) (A1 : Option Addr) (c1 : Nat) (l1 : List Int) (a2 : Int) (r1 : Int) (r2 : Int) (r3 : Bool) (w : World) (hr0 : Kd.C (Kd.slice 61 k61) w A0 l0.length l0) (hc0 : l0.length ≤ c0) (hr1 : Kd.C (Kd.int .i64) w A1 l1.length l1) (hc1 : l1.length ≤ c1) (h : impl_GreatestRegret.f k l0 l1 a2 = some (r1, r2, r3)) :
  Calls Try.prog 24 #[.slice A0 l0.length c0, .slice A1 l1.length c1, .int .i64 a2] w fun e w' => e = .returned (.tuple #[.int .i64 r1, .int .i64 r2, .bool r3]) ∧ Below w.heap.size w w' := by
 have HR0 := Aside0.mk hr0
 have HC0 := Aside0.mk hc0
 clear hr0 hc0
 have HR1 := Aside0.mk hr1
 have HC1 := Aside0.mk hc1
 clear hr1 hc1
 have HB := Aside0.mk (Below.refl w.heap.size w)
 have H : ((impl_areRobust.f k l0 a2).bind fun t688 => (if t688 = true then (if 0 < (l0.length : Int) then ((impl_isOrder.f k ((rd_L4 l0 0).length : Int) l1).bind fun t690 => (impl_GreatestRegret.j0 k l0 l1 a2 (!t690))) else (none)) else (impl_GreatestRegret.j0 k l0 l1 a2 true))) = some (r1, r2, r3) := h
 clear h
 have HC4 := Aside0.mk H
 clear H
 go_enter Try.func24, Try.ntmps24
 go_upto_region 1 with (fail)
 go_cut [23] (fun v23 wc => ∃ (kq : Nat) (x23_3 : Bool), v23 = .bool x23_3 ∧ Aside0 (impl_GreatestRegret.j0 kq l0 l1 a2 x23_3 = some (r1, r2, r3)) ∧ Aside0 (kq ≤ k) ∧ Aside0 (Below w.heap.size w wc))
 case first =>
  have H := HC4.out
  clear HC4
  replace H := Option.bind_eq_some_iff.mp H
  obtain ⟨t688, A50, H⟩ := H
  replace H : (if t688 = true then (if 0 < (l0.length : Int) then ((impl_isOrder.f k ((rd_L4 l0 0).length : Int) l1).bind fun t690 => (impl_GreatestRegret.j0 k l0 l1 a2 (!t690))) else (none)) else (impl_GreatestRegret.j0 k l0 l1 a2 true)) = some (r1, r2, r3) := H
  have A5 := Aside0.mk A50
  clear A50
  by_cases c6 : t688 = true
  rotate_left
  ·replace c6 := Bool.eq_false_iff.mpr c6
   subst c6
   have H1 : (impl_GreatestRegret.j0 k l0 l1 a2 true) = some (r1, r2, r3) := by rw [if_neg (show ¬ (false = true) by decide)] at H; exact H
   clear H
   have H := H1
   clear H1
   have H' := Aside0.mk H
   clear H
   go_wp2_with (first | ((with_reducible refine gate_callee (f := 49) rfl ?_); refine goesL_ (some 13) rfl rfl Try.func49 (by kernel_rfl) rfl #[.slice A0 l0.length c0, .int .i64 a2] rfl (by (try simp only [mA_]); first | done | rfl | (simp only [List.length_drop, List.length_take]; rfl)) ?_; (with_reducible refine (impl_areRobust.calls k _ _ l0 a2 false _ ?side1 ?side2 A5.out).mono ?_); (case side1 => first | exact bC HR0.out HB.out | exact Kd.C_below HR0.out HB.out); (case side2 => exact HC0.out); rintro e w10 ⟨rfl, hb⟩; refine ⟨_, rfl, ?_⟩; have n0_ := Aside0.mk (below_step (bw HB.out) hb); replace HB := n0_; clear n0_; (try clear hb); (try clear hb2); (try clear hk); (try clear hi)))
   go_meet
   case rel => exact ⟨_, (true), (by first | rfl | (simp; done) | (simp [*]; done)), H', ⟨by first | omega | exact Nat.le_refl _⟩, ⟨bw HB.out⟩⟩
  subst c6
  have H1 : (if 0 < (l0.length : Int) then ((impl_isOrder.f k ((rd_L4 l0 0).length : Int) l1).bind fun t690 => (impl_GreatestRegret.j0 k l0 l1 a2 (!t690))) else (none)) = some (r1, r2, r3) := by rw [if_pos rfl] at H; exact H
  clear H
  have H := H1
  clear H1
  by_cases c7 : 0 < (l0.length : Int)
  rotate_left
  ·rw [if_neg c7] at H
   exact absurd H (by simp)
  rw [if_pos c7] at H
  have c7b0 : decide (0 < (l0.length : Int)) = true := decide_eq_true c7
  have c7b1 : decide (0 < l0.length) = true := decide_eq_true (by omega)
  clear c7
  (first | rw [c7b0] | (simp only [i64_w, i32_w]; rw [c7b0]) | skip)
  replace H := Option.bind_eq_some_iff.mp H
  obtain ⟨t690, A80, H⟩ := H
  replace H : (impl_GreatestRegret.j0 k l0 l1 a2 (!t690)) = some (r1, r2, r3) := H
  have A8 := Aside0.mk A80
  clear A80
  have H' := Aside0.mk H
  clear H
  go_wp2_with (first | ((with_reducible refine gate_callee (f := 49) rfl ?_); refine goesL_ (some 13) rfl rfl Try.func49 (by kernel_rfl) rfl #[.slice A0 l0.length c0, .int .i64 a2] rfl (by (try simp only [mA_]); first | done | rfl | (simp only [List.length_drop, List.length_take]; rfl)) ?_; (with_reducible refine (impl_areRobust.calls k _ _ l0 a2 true _ ?side1 ?side2 A5.out).mono ?_); (case side1 => first | exact bC HR0.out HB.out | exact Kd.C_below HR0.out HB.out); (case side2 => exact HC0.out); rintro e w9 ⟨rfl, hb⟩; refine ⟨_, rfl, ?_⟩; have n0_ := Aside0.mk (below_step (bw HB.out) hb); replace HB := n0_; clear n0_; (try clear hb); (try clear hb2); (try clear hk); (try clear hi); have p689 : 0 ≤ (0 : Int) := (by omega); have q689 : 0 < (l0.length : Int) := of_decide_eq_true (by first | (with_reducible assumption) | assumption); obtain ⟨ad689, A689_0, c689_0, e689, hx689_0, hl689_0, hi689_0⟩ := at_L4 HR0.out 0 p689 q689; cases e689; have qi689 : (0 < l0.length) = True := eq_true (by omega); (try rw [show ((0 : Int)).toNat = 0 from rfl] at hx689_0); (try rw [Addr.add_zero'] at hx689_0); replace hx689_0 := (HB.out.cell (World.block_lt_of_cell? w _ hx689_0)).trans hx689_0; have HR689_0 := Aside0.mk hi689_0; have HC689_0 := Aside0.mk hl689_0; clear hi689_0 hl689_0; replace p689 := eq_true p689; replace q689 := eq_true q689) | (go_at_call 50; (with_reducible refine (impl_isOrder.calls k ((rd_L4 l0 0).length : Int) _ _ l1 t690 _ ?side1 ?side2 A8.out).mono ?_); (case side1 => first | exact bC HR1.out HB.out | exact Kd.C_below HR1.out HB.out); (case side2 => exact HC1.out); rintro e w' ⟨rfl, ⟨nd, rfl⟩⟩))
  go_meet
  case rel => exact ⟨_, (!t690), (by first | rfl | (simp; done) | (simp [*]; done)), H', ⟨by first | omega | exact Nat.le_refl _⟩, ⟨bw HB.out⟩⟩
 case rest =>
  clear HC4
  try clear c1
  try clear c2
  try clear p2
  try clear c4
  try clear c6
  try clear p6
  try clear q6
  try clear hx6
  try clear qi6
  try clear c7
  try clear c7b0
  try clear c7b1
  try clear hx689_0
  try clear p689
  try clear q689
  obtain ⟨kq, x23_3, rfl, HA, HJ3, HB⟩ := hcut
  cases kq with
  | zero => exact absurd HA.out (by simp [impl_GreatestRegret.j0])
  | succ kj3 =>
   have H := HA.out
   clear HA
   simp only [impl_GreatestRegret.j0] at H
   by_cases c11 : x23_3 = true
   ·subst c11
    have H1 : (some (0, 0, false)) = some (r1, r2, r3) := by rw [if_pos rfl] at H; exact H
    clear H
    have H := H1
    clear H1
    simp only [Option.some.injEq, Prod.mk.injEq] at H
    obtain ⟨rfl, rfl, rfl⟩ := H
    go_wp2
    go_ret3
    exact ⟨by first | rfl | (simp [errW_none, errW_some] <;> rfl) | (simp [*, errW_none, errW_some] <;> rfl), bw HB.out⟩
   replace c11 := Bool.eq_false_iff.mpr c11
   subst c11
   have H1 : ((impl_scenarioValues.f kj3 l0 l1 a2).bind fun t691 => ((impl_bestValues.f kj3 l0 a2).bind fun t694 => ((impl_greatest.f kj3 t691 t694).bind fun bt697 => (some (bt697.1, bt697.2, true))))) = some (r1, r2, r3) := by rw [if_neg (show ¬ (false = true) by decide)] at H; exact H
   clear H
   have H := H1
   clear H1
   replace H := Option.bind_eq_some_iff.mp H
   obtain ⟨t691, A120, H⟩ := H
   replace H : ((impl_bestValues.f kj3 l0 a2).bind fun t694 => ((impl_greatest.f kj3 t691 t694).bind fun bt697 => (some (bt697.1, bt697.2, true)))) = some (r1, r2, r3) := H
   have A12 := Aside0.mk A120
   clear A120
   replace H := Option.bind_eq_some_iff.mp H
   obtain ⟨t694, A130, H⟩ := H
   replace H : ((impl_greatest.f kj3 t691 t694).bind fun bt697 => (some (bt697.1, bt697.2, true))) = some (r1, r2, r3) := H
   have A13 := Aside0.mk A130
   clear A130
   replace H := Option.bind_eq_some_iff.mp H
   obtain ⟨⟨t697, t698⟩, A140, H⟩ := H
   replace H : (some (t697, t698, true)) = some (r1, r2, r3) := H
   have A14 := Aside0.mk A140
   clear A140
   simp only [Option.some.injEq, Prod.mk.injEq] at H
   obtain ⟨rfl, rfl, rfl⟩ := H
   go_wp2_with (first | ((with_reducible refine gate_callee (f := 52) rfl ?_); refine goesL_ (some 28) rfl rfl Try.func52 (by kernel_rfl) rfl #[.slice A0 l0.length c0, .slice A1 l1.length c1, .int .i64 a2] rfl (by (try simp only [mA_]); first | done | rfl | (simp only [List.length_drop, List.length_take]; rfl)) ?_; (with_reducible refine (impl_scenarioValues.calls kj3 _ _ l0 _ _ l1 a2 t691 _ ?side1 ?side2 ?side3 ?side4 A12.out).mono ?_); (case side1 => first | exact bC HR0.out HB.out | exact Kd.C_below HR0.out HB.out); (case side2 => exact HC0.out); (case side3 => first | exact bC HR1.out HB.out | exact Kd.C_below HR1.out HB.out); (case side4 => exact HC1.out); rintro e w15 ⟨v692, rfl, ho0, hb⟩; refine ⟨_, rfl, ?_⟩; have n0_ := Aside0.mk (Kd.R_lower ho0 (below_size (bw HB.out))); have n1_ := Aside0.mk (below_step (bw HB.out) hb); have HO693 := n0_; replace HB := n1_; clear n0_ n1_; (try clear hb); (try clear hb2); (try clear hk); (try clear hi); (try clear ho0)) | ((with_reducible refine gate_callee (f := 53) rfl ?_); refine goesL_ (some 31) rfl rfl Try.func53 (by kernel_rfl) rfl #[.slice A0 l0.length c0, .int .i64 a2] rfl (by (try simp only [mA_]); first | done | rfl | (simp only [List.length_drop, List.length_take]; rfl)) ?_; (with_reducible refine (impl_bestValues.calls kj3 _ _ l0 a2 t694 _ ?side1 ?side2 A13.out).mono ?_); (case side1 => first | exact bC HR0.out HB.out | exact Kd.C_below HR0.out HB.out); (case side2 => exact HC0.out); rintro e w16 ⟨v695, rfl, ho0, hb⟩; refine ⟨_, rfl, ?_⟩; have n0_ := Aside0.mk (Kd.R_elder' (bR HO693.out) (Kd.R_base ho0) hb); have n1_ := Aside0.mk (Kd.R_lower (Kd.R_new' ho0 (Kd.R_lt (bR HO693.out))) (below_size (bw HB.out))); have n2_ := Aside0.mk (below_step (bw HB.out) hb); replace HO693 := n0_; have HO696 := n1_; replace HB := n2_; clear n0_ n1_ n2_; (try clear hb); (try clear hb2); (try clear hk); (try clear hi); (try clear ho0); obtain ⟨Ao17, co17, eo17⟩ := Kd.R_slice HO693.out; subst eo17; obtain ⟨Ao18, co18, eo18⟩ := Kd.R_slice HO696.out; subst eo18) | ((with_reducible refine gate_callee (f := 51) rfl ?_); refine goesL_ (some 32) rfl rfl Try.func51 (by kernel_rfl) rfl #[.slice Ao17 t691.length co17, .slice Ao18 t694.length co18] rfl (by (try simp only [mA_]); first | done | rfl | (simp only [List.length_drop, List.length_take]; rfl)) ?_; (with_reducible refine (impl_greatest.calls kj3 _ _ t691 _ _ t694 t697 t698 _ ?side1 ?side2 ?side3 ?side4 A14.out).mono ?_); (case side1 => repeat (first | exact (Kd.R_reads' HO693.out).2.2 | (with_reducible refine Kd.C_alloc ?_ _) | (with_reducible refine Kd.C_drewN ?_ _) | (with_reducible refine Kd.C_drew ?_))); (case side2 => exact (Kd.R_reads' HO693.out).2.1); (case side3 => repeat (first | exact (Kd.R_reads' HO696.out).2.2 | (with_reducible refine Kd.C_alloc ?_ _) | (with_reducible refine Kd.C_drewN ?_ _) | (with_reducible refine Kd.C_drew ?_))); (case side4 => exact (Kd.R_reads' HO696.out).2.1); rintro e w' ⟨rfl, ⟨nd, rfl⟩⟩; refine ⟨_, rfl, ?_⟩))
   go_ret3
   exact ⟨by first | rfl | (simp [errW_none, errW_some] <;> rfl) | (simp [*, errW_none, errW_some] <;> rfl), bw HB.out⟩

/-! ### laws_eqJobSS: function 25 -/
abbrev q25_0 : Array Bool := ⟨rl_ [10] false⟩
abbrev q25_7 : Array Bool := ⟨rl_ [7, 3] true⟩
abbrev q25_8 : Array Bool := ⟨rl_ [8, 2] true⟩
abbrev q25_9 : Array Bool := ⟨rl_ [9, 1] true⟩
def laws_eqJobSS.l0 : Nat → List (List (S61)) → List (List (S61)) → Int → Option (Bool)
 | 0, _, _, _ => none
 | k + 1, x0, x1, x5 => if x5 < (x0.length : Int) then (if 0 ≤ x5 then (if x5 < (x1.length : Int) then ((laws_eqJobS.f k (rd_L4 x0 x5) (rd_L4 x1 x5)).bind fun t701 => (if t701 = true then (laws_eqJobSS.l0 k x0 x1 (wrap64 (x5 + 1))) else (some false))) else (none)) else (none)) else (some true)
def laws_eqJobSS.f (k : Nat) (l0 : List (List (S61))) (l1 : List (List (S61))) : Option (Bool) := if (l0.length : Int) = (l1.length : Int) then (laws_eqJobSS.l0 k l0 l1 0) else (some false)
theorem laws_eqJobSS.mono_l : ∀ k, (∀ y0 y1 y2, LeO (laws_eqJobSS.l0 k y0 y1 y2) (laws_eqJobSS.l0 (k + 1) y0 y1 y2))
 | 0 => fun _ _ _ r h => by simp [laws_eqJobSS.l0] at h
 | k + 1 => by
  have ih0 := laws_eqJobSS.mono_l k
  ·intro y0 y1 y2
   unfold laws_eqJobSS.l0
   repeat' first
   | (with_reducible exact ih0 _ _ _)
   | (with_reducible exact laws_eqJobS.mono _ _ _)
   | (with_reducible exact LeO.refl _)
   | (with_reducible exact LeO.none _)
   | (with_reducible refine LeO.ite ?_ ?_)
   | (with_reducible refine LeO.bind ?_ (fun _ => ?_))
   | exact ih0 _ _ _
   | exact laws_eqJobS.mono _ _ _
   | exact LeO.none _
   | refine LeO.ite ?_ ?_
   | refine LeO.bind ?_ (fun _ => ?_)
theorem laws_eqJobSS.mono : ∀ a0 a1 k, LeO (laws_eqJobSS.f k a0 a1) (laws_eqJobSS.f (k + 1) a0 a1) := by
 intro a0 a1 k
 have ih0 := laws_eqJobSS.mono_l k
 unfold laws_eqJobSS.f
 repeat' first
   | (with_reducible exact ih0 _ _ _)
   | (with_reducible exact laws_eqJobS.mono _ _ _)
   | (with_reducible exact LeO.refl _)
   | (with_reducible exact LeO.none _)
   | (with_reducible refine LeO.ite ?_ ?_)
   | (with_reducible refine LeO.bind ?_ (fun _ => ?_))
   | exact ih0 _ _ _
   | exact laws_eqJobS.mono _ _ _
   | exact LeO.none _
   | refine LeO.ite ?_ ?_
   | refine LeO.bind ?_ (fun _ => ?_)
def laws_eqJobSS.T6 : Bool × List (List Nat × List Nat) := (true, [([], []), ([], []), ([0, 1], [0, 1]), ([2], [2]), ([], []), ([], []), ([4, 5], [4, 5]), ([6], [6]), ([3, 7], [3, 7]), ([8], [8])])
def laws_eqJobSS.B6 : List Nat := [0, 0, 3, 7, 0, 0, 48, 112, 255, 511]
theorem laws_eqJobSS.tab6 : rtab .any (opsOf Try.f25 6) = laws_eqJobSS.T6 := by kernel_rfl
theorem laws_eqJobSS.bits6 : waitsOk laws_eqJobSS.T6.2 laws_eqJobSS.B6 = true := by kernel_rfl
set_option maxHeartbeats 8000000 in
set_option maxRecDepth 100000 in
theorem laws_eqJobSS.calls (k : Nat) (A0 : Option Addr) (c0 : Nat) (l0 : List (List (S61))) (A1 : Option Addr) (c1 : Nat) (l1 : List (List (S61))) (r : Bool) (w : World) (hr0 : Kd.C (Kd.slice 61 k61) w A0 l0.length l0) (hc0 : l0.length ≤ c0) (hr1 : Kd.C (Kd.slice 61 k61) w A1 l1.length l1) (hc1 : l1.length ≤ c1) (h : laws_eqJobSS.f k l0 l1 = some r) :
  Calls Try.prog 25 #[.slice A0 l0.length c0, .slice A1 l1.length c1] w fun e w' => e = .returned (.bool r) ∧ Below w.heap.size w w' := by
 have HR0 := Aside0.mk hr0
 have HC0 := Aside0.mk hc0
 clear hr0 hc0
 have HR1 := Aside0.mk hr1
 have HC1 := Aside0.mk hc1
 clear hr1 hc1
 have HB := Aside0.mk (Below.refl w.heap.size w)
 have H : (if (l0.length : Int) = (l1.length : Int) then (laws_eqJobSS.l0 k l0 l1 0) else (some false)) = some r := h
 clear h
 by_cases c3 : (l0.length : Int) = (l1.length : Int)
 rotate_left
 ·rw [if_neg c3] at H
  have c3b0 : ((l0.length : Int) == (l1.length : Int)) = false := beq_eq_false_iff_ne.mpr c3
  have c3b1 : ((l0.length : Int) != (l1.length : Int)) = true := bne_iff_ne.mpr c3
  have c3b2 : (l0.length == l1.length) = false := by first | simpa using c3 | (simp at c3 ⊢; omega)
  obtain rfl := Option.some.inj H
  go_enter Try.func25, Try.ntmps25
  go_wp2
  go_ret
  exact ⟨by first | rfl | (simp [errW_none, errW_some] <;> rfl) | (simp [*, errW_none, errW_some] <;> rfl), bw HB.out⟩
 rw [if_pos c3] at H
 have c3b0 : ((l0.length : Int) == (l1.length : Int)) = true := beq_iff_eq.mpr c3
 have c3b1 : ((l0.length : Int) != (l1.length : Int)) = false := bne_eq_false_iff_eq.mpr c3
 have c3b2 : (l0.length == l1.length) = true := by first | simpa using c3 | (simp at c3 ⊢; omega)
 clear c3
 have H' := Aside0.mk H
 clear H
 go_enter Try.func25, Try.ntmps25
 go_wp2
 go_loopg [5] k (fun kq v5 w' => ∃ (x5_1 : Int), v5 = .int .i64 x5_1 ∧ Aside0 (laws_eqJobSS.l0 kq l0 l1 x5_1 = some r) ∧ Aside0 (kq ≤ k) ∧ Aside0 (Below w.heap.size w w'))
 case atStart => exact ⟨(0), (by first | rfl | (simp; done) | (simp [*]; done)), H', ⟨Nat.le_refl _⟩, ⟨bw HB.out⟩⟩
 case round =>
  clear H'
  try clear c1
  try clear c2
  try clear p2
  try clear c3
  try clear c3b0
  try clear c3b1
  try clear c3b2
  obtain ⟨x5_1, rfl, HA, HK1, HB⟩ := hrel
  cases gk with
  | zero => exact absurd HA.out (by simp [laws_eqJobSS.l0])
  | succ k1 =>
   have H := HA.out
   clear HA
   simp only [laws_eqJobSS.l0] at H
   by_cases c4 : x5_1 < (l0.length : Int)
   rotate_left
   ·rw [if_neg c4] at H
    have c4b0 : decide (x5_1 < (l0.length : Int)) = false := decide_eq_false c4
    clear c4
    obtain rfl := Option.some.inj H
    go_wp2
    go_ret
    exact ⟨by first | rfl | (simp [errW_none, errW_some] <;> rfl) | (simp [*, errW_none, errW_some] <;> rfl), bw HB.out⟩
   rw [if_pos c4] at H
   have c4b0 : decide (x5_1 < (l0.length : Int)) = true := decide_eq_true c4
   clear c4
   by_cases c5 : 0 ≤ x5_1
   rotate_left
   ·rw [if_neg c5] at H
    exact absurd H (by simp)
   rw [if_pos c5] at H
   have c5b0 : decide (0 ≤ x5_1) = true := decide_eq_true c5
   clear c5
   by_cases c6 : x5_1 < (l1.length : Int)
   rotate_left
   ·rw [if_neg c6] at H
    exact absurd H (by simp)
   rw [if_pos c6] at H
   have c6b0 : decide (x5_1 < (l1.length : Int)) = true := decide_eq_true c6
   clear c6
   replace H := Option.bind_eq_some_iff.mp H
   obtain ⟨t701, A70, H⟩ := H
   replace H : (if t701 = true then (laws_eqJobSS.l0 k1 l0 l1 (wrap64 (x5_1 + 1))) else (some false)) = some r := H
   have A7 := Aside0.mk A70
   clear A70
   by_cases c8 : t701 = true
   rotate_left
   ·replace c8 := Bool.eq_false_iff.mpr c8
    subst c8
    have H1 : (some false) = some r := by rw [if_neg (show ¬ (false = true) by decide)] at H; exact H
    clear H
    have H := H1
    clear H1
    obtain rfl := Option.some.inj H
    try go_wp2
    have n0_ := Aside0.mk (below_drew1 HB.out)
    replace HB := n0_
    clear n0_
    have p699 : 0 ≤ (x5_1 : Int) := of_decide_eq_true (by first | (with_reducible assumption) | assumption)
    have q699 : x5_1 < (l0.length : Int) := of_decide_eq_true (by first | (with_reducible assumption) | assumption)
    obtain ⟨ad699, A699_0, c699_0, e699, hx699_0, hl699_0, hi699_0⟩ := at_L4 HR0.out x5_1 p699 q699
    have hw699_0 := hx699_0
    cases e699
    replace hx699_0 := (HB.out.cell (World.block_lt_of_cell? w _ hx699_0)).trans hx699_0
    have HR699_0 := Aside0.mk hi699_0
    have HC699_0 := Aside0.mk hl699_0
    clear hi699_0 hl699_0
    replace p699 := eq_true p699
    replace q699 := eq_true q699
    have p700 : 0 ≤ (x5_1 : Int) := of_decide_eq_true (by first | (with_reducible assumption) | assumption)
    have q700 : x5_1 < (l1.length : Int) := of_decide_eq_true (by first | (with_reducible assumption) | assumption)
    obtain ⟨ad700, A700_0, c700_0, e700, hx700_0, hl700_0, hi700_0⟩ := at_L4 HR1.out x5_1 p700 q700
    have hw700_0 := hx700_0
    cases e700
    replace hx700_0 := (HB.out.cell (World.block_lt_of_cell? w _ hx700_0)).trans hx700_0
    have HR700_0 := Aside0.mk hi700_0
    have HC700_0 := Aside0.mk hl700_0
    clear hi700_0 hl700_0
    replace p700 := eq_true p700
    replace q700 := eq_true q700
    refine start_ (n := 10) (S := fun w' => w'.cell? (ad699.add (x5_1).toNat) = some (.slice A699_0 (rd_L4 l0 x5_1).length c699_0) ∧ w'.cell? (ad700.add (x5_1).toNat) = some (.slice A700_0 (rd_L4 l1 x5_1).length c700_0)) (ds := []) q25_0 (by kernel_rfl) rfl rfl ⟨(bcl_ HB.out hw699_0 :), (bcl_ HB.out hw700_0 :)⟩ (fun hHeld => ?_); refine with_tabW laws_eqJobSS.tab6 laws_eqJobSS.bits6 (fun HT_ HW_ => ?_)
    generalize wr.drew = w11 at HB HR699_0 HR700_0 hx699_0 hx700_0 hHeld ⊢
    refine pup_ (i := 0) (N := some 17) HT_ rfl rfl (by kernel_rfl) (fun _ _ _ h => h) (Or.inl ⟨by rfl, by intro w'; go_simp; with_reducible rfl⟩) (by simp only [aq_]; rfl) ?_
    refine pup_ (i := 1) (N := some 18) HT_ rfl rfl (by kernel_rfl) (fun _ _ _ h => h) (Or.inl ⟨by rfl, by intro w'; go_simp; with_reducible rfl⟩) (by simp only [aq_]; rfl) ?_
    refine pup_ (i := 2) (N := some 19) HT_ rfl rfl (by kernel_rfl) (fun _ _ _ h => h) (Or.inl ⟨by rfl, by intro w'; go_simp; with_reducible rfl⟩) (by simp only [aq_]; rfl) ?_
    refine pup_ (i := 4) (N := some 21) HT_ rfl rfl (by kernel_rfl) (fun _ _ _ h => h) (Or.inl ⟨by rfl, by intro w'; go_simp; with_reducible rfl⟩) (by simp only [aq_]; rfl) ?_
    refine pup_ (i := 5) (N := some 22) HT_ rfl rfl (by kernel_rfl) (fun _ _ _ h => h) (Or.inl ⟨by rfl, by intro w'; go_simp; with_reducible rfl⟩) (by simp only [aq_]; rfl) ?_
    refine pup_ (i := 6) (N := some 23) HT_ rfl rfl (by kernel_rfl) (fun _ _ _ h => h) (Or.inl ⟨by rfl, by intro w'; go_simp; with_reducible rfl⟩) (by simp only [aq_]; rfl) ?_
    refine take_ (i := 3) (N := some 20) (v := ?_) (a' := ?_) q25_7 rfl rfl (take_ofW HT_.out HW_.out (by kernel_rfl)) (fun _ _ _ h => h) (Or.inl ⟨by rfl, ?_⟩) hHeld ?_ ?_
    rotate_left
    ·rintro w' ⟨s0, s1⟩
     go_simp
     with_reducible rfl
    rotate_left
    ·simp only [aq_]
     rfl
    refine take_ (i := 7) (N := some 24) (v := ?_) (a' := ?_) q25_8 rfl rfl (take_ofW HT_.out HW_.out (by kernel_rfl)) (fun _ _ _ h => h) (Or.inl ⟨by rfl, ?_⟩) hHeld ?_ ?_
    rotate_left
    ·rintro w' ⟨s0, s1⟩
     go_simp
     with_reducible rfl
    rotate_left
    ·simp only [aq_]
     rfl
    refine one_ (i := 8) (N := some 25) q25_9 rfl rfl (one_of HT_.out (by kernel_rfl)) (by decide) (fun K hK => ?_)
    refine goes_ Try.func12 (by kernel_rfl) rfl #[.slice A699_0 (rd_L4 l0 x5_1).length c699_0, .slice A700_0 (rd_L4 l1 x5_1).length c700_0] (by rfl) rfl rfl (by (try simp only [mA_]); first | done | rfl | (simp only [List.length_drop, List.length_take]; rfl)) ?_
    with_reducible refine (laws_eqJobS.calls k1 _ _ (rd_L4 l0 x5_1) _ _ (rd_L4 l1 x5_1) false _ ?side1 ?side2 ?side3 ?side4 A7.out).mono ?_
    (case side1 => first | exact bC HR699_0.out HB.out | exact Kd.C_below HR699_0.out HB.out)
    (case side2 => exact HC699_0.out)
    (case side3 => first | exact bC HR700_0.out HB.out | exact Kd.C_below HR700_0.out HB.out)
    (case side4 => exact HC700_0.out)
    rintro e w12 ⟨rfl, hb⟩
    refine ⟨_, rfl, ?_⟩
    have n0_ := Aside0.mk (below_step (bw HB.out) hb)
    replace HB := n0_
    clear n0_
    (try clear hb)
    (try clear hb2)
    (try clear hk)
    (try clear hi)
    refine hK.out _ _ ⟨(bcl_ HB.out hw699_0 :), (bcl_ HB.out hw700_0 :)⟩ (fun hHeld => ?_)
    clear hK K
    refine norm_ (a' := ?_) ?_ ?_
    rotate_left
    ·show Act.put _ (some 25) _ = _
     simp only [aq_]
     rfl
    refine pup_ (i := 9) (N := some 26) HT_ rfl rfl (by kernel_rfl) (fun _ _ _ h => h) (Or.inl ⟨by rfl, by intro w'; go_simp; with_reducible rfl⟩) (by simp only [aq_]; rfl) ?_
    refine done_ (done_of HT_.out (by kernel_rfl)) ?_
    try go_wp2
    go_ret
    exact ⟨by first | rfl | (simp [errW_none, errW_some] <;> rfl) | (simp [*, errW_none, errW_some] <;> rfl), bw HB.out⟩
   subst c8
   have H1 : (laws_eqJobSS.l0 k1 l0 l1 (wrap64 (x5_1 + 1))) = some r := by rw [if_pos rfl] at H; exact H
   clear H
   have H := H1
   clear H1
   have H' := Aside0.mk H
   clear H
   try go_wp2
   have n0_ := Aside0.mk (below_drew1 HB.out)
   replace HB := n0_
   clear n0_
   have p699 : 0 ≤ (x5_1 : Int) := of_decide_eq_true (by first | (with_reducible assumption) | assumption)
   have q699 : x5_1 < (l0.length : Int) := of_decide_eq_true (by first | (with_reducible assumption) | assumption)
   obtain ⟨ad699, A699_0, c699_0, e699, hx699_0, hl699_0, hi699_0⟩ := at_L4 HR0.out x5_1 p699 q699
   have hw699_0 := hx699_0
   cases e699
   replace hx699_0 := (HB.out.cell (World.block_lt_of_cell? w _ hx699_0)).trans hx699_0
   have HR699_0 := Aside0.mk hi699_0
   have HC699_0 := Aside0.mk hl699_0
   clear hi699_0 hl699_0
   replace p699 := eq_true p699
   replace q699 := eq_true q699
   have p700 : 0 ≤ (x5_1 : Int) := of_decide_eq_true (by first | (with_reducible assumption) | assumption)
   have q700 : x5_1 < (l1.length : Int) := of_decide_eq_true (by first | (with_reducible assumption) | assumption)
   obtain ⟨ad700, A700_0, c700_0, e700, hx700_0, hl700_0, hi700_0⟩ := at_L4 HR1.out x5_1 p700 q700
   have hw700_0 := hx700_0
   cases e700
   replace hx700_0 := (HB.out.cell (World.block_lt_of_cell? w _ hx700_0)).trans hx700_0
   have HR700_0 := Aside0.mk hi700_0
   have HC700_0 := Aside0.mk hl700_0
   clear hi700_0 hl700_0
   replace p700 := eq_true p700
   replace q700 := eq_true q700
   refine start_ (n := 10) (S := fun w' => w'.cell? (ad699.add (x5_1).toNat) = some (.slice A699_0 (rd_L4 l0 x5_1).length c699_0) ∧ w'.cell? (ad700.add (x5_1).toNat) = some (.slice A700_0 (rd_L4 l1 x5_1).length c700_0)) (ds := []) q25_0 (by kernel_rfl) rfl rfl ⟨(bcl_ HB.out hw699_0 :), (bcl_ HB.out hw700_0 :)⟩ (fun hHeld => ?_); refine with_tabW laws_eqJobSS.tab6 laws_eqJobSS.bits6 (fun HT_ HW_ => ?_)
   generalize wr.drew = w9 at HB HR699_0 HR700_0 hx699_0 hx700_0 hHeld ⊢
   refine pup_ (i := 0) (N := some 17) HT_ rfl rfl (by kernel_rfl) (fun _ _ _ h => h) (Or.inl ⟨by rfl, by intro w'; go_simp; with_reducible rfl⟩) (by simp only [aq_]; rfl) ?_
   refine pup_ (i := 1) (N := some 18) HT_ rfl rfl (by kernel_rfl) (fun _ _ _ h => h) (Or.inl ⟨by rfl, by intro w'; go_simp; with_reducible rfl⟩) (by simp only [aq_]; rfl) ?_
   refine pup_ (i := 2) (N := some 19) HT_ rfl rfl (by kernel_rfl) (fun _ _ _ h => h) (Or.inl ⟨by rfl, by intro w'; go_simp; with_reducible rfl⟩) (by simp only [aq_]; rfl) ?_
   refine pup_ (i := 4) (N := some 21) HT_ rfl rfl (by kernel_rfl) (fun _ _ _ h => h) (Or.inl ⟨by rfl, by intro w'; go_simp; with_reducible rfl⟩) (by simp only [aq_]; rfl) ?_
   refine pup_ (i := 5) (N := some 22) HT_ rfl rfl (by kernel_rfl) (fun _ _ _ h => h) (Or.inl ⟨by rfl, by intro w'; go_simp; with_reducible rfl⟩) (by simp only [aq_]; rfl) ?_
   refine pup_ (i := 6) (N := some 23) HT_ rfl rfl (by kernel_rfl) (fun _ _ _ h => h) (Or.inl ⟨by rfl, by intro w'; go_simp; with_reducible rfl⟩) (by simp only [aq_]; rfl) ?_
   refine take_ (i := 3) (N := some 20) (v := ?_) (a' := ?_) q25_7 rfl rfl (take_ofW HT_.out HW_.out (by kernel_rfl)) (fun _ _ _ h => h) (Or.inl ⟨by rfl, ?_⟩) hHeld ?_ ?_
   rotate_left
   ·rintro w' ⟨s0, s1⟩
    go_simp
    with_reducible rfl
   rotate_left
   ·simp only [aq_]
    rfl
   refine take_ (i := 7) (N := some 24) (v := ?_) (a' := ?_) q25_8 rfl rfl (take_ofW HT_.out HW_.out (by kernel_rfl)) (fun _ _ _ h => h) (Or.inl ⟨by rfl, ?_⟩) hHeld ?_ ?_
   rotate_left
   ·rintro w' ⟨s0, s1⟩
    go_simp
    with_reducible rfl
   rotate_left
   ·simp only [aq_]
    rfl
   refine one_ (i := 8) (N := some 25) q25_9 rfl rfl (one_of HT_.out (by kernel_rfl)) (by decide) (fun K hK => ?_)
   refine goes_ Try.func12 (by kernel_rfl) rfl #[.slice A699_0 (rd_L4 l0 x5_1).length c699_0, .slice A700_0 (rd_L4 l1 x5_1).length c700_0] (by rfl) rfl rfl (by (try simp only [mA_]); first | done | rfl | (simp only [List.length_drop, List.length_take]; rfl)) ?_
   with_reducible refine (laws_eqJobS.calls k1 _ _ (rd_L4 l0 x5_1) _ _ (rd_L4 l1 x5_1) true _ ?side1 ?side2 ?side3 ?side4 A7.out).mono ?_
   (case side1 => first | exact bC HR699_0.out HB.out | exact Kd.C_below HR699_0.out HB.out)
   (case side2 => exact HC699_0.out)
   (case side3 => first | exact bC HR700_0.out HB.out | exact Kd.C_below HR700_0.out HB.out)
   (case side4 => exact HC700_0.out)
   rintro e w10 ⟨rfl, hb⟩
   refine ⟨_, rfl, ?_⟩
   have n0_ := Aside0.mk (below_step (bw HB.out) hb)
   replace HB := n0_
   clear n0_
   (try clear hb)
   (try clear hb2)
   (try clear hk)
   (try clear hi)
   refine hK.out _ _ ⟨(bcl_ HB.out hw699_0 :), (bcl_ HB.out hw700_0 :)⟩ (fun hHeld => ?_)
   clear hK K
   refine norm_ (a' := ?_) ?_ ?_
   rotate_left
   ·show Act.put _ (some 25) _ = _
    simp only [aq_]
    rfl
   refine pup_ (i := 9) (N := some 26) HT_ rfl rfl (by kernel_rfl) (fun _ _ _ h => h) (Or.inl ⟨by rfl, by intro w'; go_simp; with_reducible rfl⟩) (by simp only [aq_]; rfl) ?_
   refine done_ (done_of HT_.out (by kernel_rfl)) ?_
   try go_wp2
   go_roundg k1
   case measure => have := HK1.out; omega
   case rel => exact ⟨(wrap64 (x5_1 + 1)), (by first | rfl | (simp; done) | (simp [*]; done)), H', ⟨by have := HK1.out; omega⟩, ⟨bw HB.out⟩⟩

/-! ### laws_FnExactGreatestRegret: function 6 -/
def laws_FnExactGreatestRegret.j0 : Nat → List (List (S63)) → List Int → List (List (S61)) → List Int → Bool → Option (Bool)
 | 0, _, _, _, _, _ => none
 | k + 1, x0, x1, x11, x12, x58 => if x58 = true then (some false) else ((laws_toJobSS.f k x0).bind fun t721 => ((laws_eqJobSS.f k x11 t721).bind fun t724 => (if t724 = true then ((laws_toIntS.f k x1).bind fun t725 => ((laws_eqIntS.f k x12 t725).bind fun t728 => (if t728 = true then (some true) else (some false)))) else (some false))))
def laws_FnExactGreatestRegret.f (k : Nat) (l0 : List (List (S63))) (l1 : List Int) (a2 : Int) : Option (Bool) := if (l1.length : Int) > 1048576 then (some true) else ((laws_szJobSS.f k l0 1048576).bind fun t702 => (if t702 < 0 then (some true) else ((laws_toJobSS.f k l0).bind fun t703 => ((laws_toIntS.f k l1).bind fun t706 => ((spec_GreatestRegret.f k t703 t706 a2).bind fun bt709 => ((laws_toJobSS.f k l0).bind fun t712 => ((laws_toIntS.f k l1).bind fun t715 => ((impl_GreatestRegret.f k t712 t715 a2).bind fun bt718 => (if bt718.1 = bt709.1 then (if bt718.2.1 = bt709.2.1 then (laws_FnExactGreatestRegret.j0 k l0 l1 t712 t715 (bt718.2.2 != bt709.2.2)) else (laws_FnExactGreatestRegret.j0 k l0 l1 t712 t715 true)) else (laws_FnExactGreatestRegret.j0 k l0 l1 t712 t715 true))))))))))
theorem laws_FnExactGreatestRegret.mono_l : ∀ k, (∀ y0 y1 y2 y3 y4, LeO (laws_FnExactGreatestRegret.j0 k y0 y1 y2 y3 y4) (laws_FnExactGreatestRegret.j0 (k + 1) y0 y1 y2 y3 y4))
 | 0 => fun _ _ _ _ _ r h => by simp [laws_FnExactGreatestRegret.j0] at h
 | k + 1 => by
  have ih0 := laws_FnExactGreatestRegret.mono_l k
  ·intro y0 y1 y2 y3 y4
   unfold laws_FnExactGreatestRegret.j0
   repeat' first
   | (with_reducible exact ih0 _ _ _ _ _)
   | (with_reducible exact impl_GreatestRegret.mono _ _ _ _)
   | (with_reducible exact laws_eqIntS.mono _ _ _)
   | (with_reducible exact laws_eqJobSS.mono _ _ _)
   | (with_reducible exact laws_szJobSS.mono _ _ _)
   | (with_reducible exact laws_toIntS.mono _ _)
   | (with_reducible exact laws_toJobSS.mono _ _)
   | (with_reducible exact spec_GreatestRegret.mono _ _ _ _)
   | (with_reducible exact LeO.refl _)
   | (with_reducible exact LeO.none _)
   | (with_reducible refine LeO.ite ?_ ?_)
   | (with_reducible refine LeO.bind ?_ (fun _ => ?_))
   | exact ih0 _ _ _ _ _
   | exact impl_GreatestRegret.mono _ _ _ _
   | exact laws_eqIntS.mono _ _ _
   | exact laws_eqJobSS.mono _ _ _
   | exact laws_szJobSS.mono _ _ _
   | exact laws_toIntS.mono _ _
   | exact laws_toJobSS.mono _ _
   | exact spec_GreatestRegret.mono _ _ _ _
   | exact LeO.none _
   | refine LeO.ite ?_ ?_
   | refine LeO.bind ?_ (fun _ => ?_)
theorem laws_FnExactGreatestRegret.mono : ∀ a0 a1 a2 k, LeO (laws_FnExactGreatestRegret.f k a0 a1 a2) (laws_FnExactGreatestRegret.f (k + 1) a0 a1 a2) := by
 intro a0 a1 a2 k
 have ih0 := laws_FnExactGreatestRegret.mono_l k
 unfold laws_FnExactGreatestRegret.f
 repeat' first
   | (with_reducible exact ih0 _ _ _ _ _)
   | (with_reducible exact impl_GreatestRegret.mono _ _ _ _)
   | (with_reducible exact laws_eqIntS.mono _ _ _)
   | (with_reducible exact laws_eqJobSS.mono _ _ _)
   | (with_reducible exact laws_szJobSS.mono _ _ _)
   | (with_reducible exact laws_toIntS.mono _ _)
   | (with_reducible exact laws_toJobSS.mono _ _)
   | (with_reducible exact spec_GreatestRegret.mono _ _ _ _)
   | (with_reducible exact LeO.refl _)
   | (with_reducible exact LeO.none _)
   | (with_reducible refine LeO.ite ?_ ?_)
   | (with_reducible refine LeO.bind ?_ (fun _ => ?_))
   | exact ih0 _ _ _ _ _
   | exact impl_GreatestRegret.mono _ _ _ _
   | exact laws_eqIntS.mono _ _ _
   | exact laws_eqJobSS.mono _ _ _
   | exact laws_szJobSS.mono _ _ _
   | exact laws_toIntS.mono _ _
   | exact laws_toJobSS.mono _ _
   | exact spec_GreatestRegret.mono _ _ _ _
   | exact LeO.none _
   | refine LeO.ite ?_ ?_
   | refine LeO.bind ?_ (fun _ => ?_)
set_option maxHeartbeats 8000000 in
set_option maxRecDepth 100000 in
theorem laws_FnExactGreatestRegret.calls (k : Nat) (A0 : Option Addr) (c0 : Nat) (l0 : List (List (S63))) (A1 : Option Addr) (c1 : Nat) (l1 : List Int) (a2 : Int) (r : Bool) (w : World) (hr0 : Kd.C (Kd.slice 63 k63) w A0 l0.length l0) (hc0 : l0.length ≤ c0) (hr1 : Kd.C (Kd.int .i64) w A1 l1.length l1) (hc1 : l1.length ≤ c1) (h : laws_FnExactGreatestRegret.f k l0 l1 a2 = some r) :
  Calls Try.prog 6 #[.slice A0 l0.length c0, .slice A1 l1.length c1, .int .i64 a2] w fun e w' => e = .returned (.bool r) ∧ Below w.heap.size w w' := by
 have HR0 := Aside0.mk hr0
 have HC0 := Aside0.mk hc0
 clear hr0 hc0
 have HR1 := Aside0.mk hr1
 have HC1 := Aside0.mk hc1
 clear hr1 hc1
 have HB := Aside0.mk (Below.refl w.heap.size w)
 have H : (if (l1.length : Int) > 1048576 then (some true) else ((laws_szJobSS.f k l0 1048576).bind fun t702 => (if t702 < 0 then (some true) else ((laws_toJobSS.f k l0).bind fun t703 => ((laws_toIntS.f k l1).bind fun t706 => ((spec_GreatestRegret.f k t703 t706 a2).bind fun bt709 => ((laws_toJobSS.f k l0).bind fun t712 => ((laws_toIntS.f k l1).bind fun t715 => ((impl_GreatestRegret.f k t712 t715 a2).bind fun bt718 => (if bt718.1 = bt709.1 then (if bt718.2.1 = bt709.2.1 then (laws_FnExactGreatestRegret.j0 k l0 l1 t712 t715 (bt718.2.2 != bt709.2.2)) else (laws_FnExactGreatestRegret.j0 k l0 l1 t712 t715 true)) else (laws_FnExactGreatestRegret.j0 k l0 l1 t712 t715 true))))))))))) = some r := h
 clear h
 by_cases c4 : (l1.length : Int) > 1048576
 ·rw [if_pos c4] at H
  have c4b0 : decide (1048576 < (l1.length : Int)) = true := decide_eq_true c4
  have c4b1 : decide (1048576 < l1.length) = true := decide_eq_true (by omega)
  clear c4
  obtain rfl := Option.some.inj H
  go_enter Try.func6, Try.ntmps6
  go_wp2
  go_ret
  exact ⟨by first | rfl | (simp [errW_none, errW_some] <;> rfl) | (simp [*, errW_none, errW_some] <;> rfl), bw HB.out⟩
 rw [if_neg c4] at H
 have c4b0 : decide (1048576 < (l1.length : Int)) = false := decide_eq_false c4
 have c4b1 : decide (1048576 < l1.length) = false := decide_eq_false (by omega)
 clear c4
 replace H := Option.bind_eq_some_iff.mp H
 obtain ⟨t702, A50, H⟩ := H
 replace H : (if t702 < 0 then (some true) else ((laws_toJobSS.f k l0).bind fun t703 => ((laws_toIntS.f k l1).bind fun t706 => ((spec_GreatestRegret.f k t703 t706 a2).bind fun bt709 => ((laws_toJobSS.f k l0).bind fun t712 => ((laws_toIntS.f k l1).bind fun t715 => ((impl_GreatestRegret.f k t712 t715 a2).bind fun bt718 => (if bt718.1 = bt709.1 then (if bt718.2.1 = bt709.2.1 then (laws_FnExactGreatestRegret.j0 k l0 l1 t712 t715 (bt718.2.2 != bt709.2.2)) else (laws_FnExactGreatestRegret.j0 k l0 l1 t712 t715 true)) else (laws_FnExactGreatestRegret.j0 k l0 l1 t712 t715 true))))))))) = some r := H
 have A5 := Aside0.mk A50
 clear A50
 by_cases c6 : t702 < 0
 ·rw [if_pos c6] at H
  have c6b0 : decide (t702 < 0) = true := decide_eq_true c6
  clear c6
  obtain rfl := Option.some.inj H
  go_enter Try.func6, Try.ntmps6
  go_wp2_with (first | ((with_reducible refine gate_callee (f := 21) rfl ?_); refine goesL_ (some 21) rfl rfl Try.func21 (by kernel_rfl) rfl #[.slice A0 l0.length c0, .int .i64 1048576] rfl (by (try simp only [mA_]); first | done | rfl | (simp only [List.length_drop, List.length_take]; rfl)) ?_; (with_reducible refine (laws_szJobSS.calls k _ _ l0 1048576 t702 _ ?side1 ?side2 A5.out).mono ?_); (case side1 => repeat (first | exact HR0.out | (with_reducible refine Kd.C_alloc ?_ _) | (with_reducible refine Kd.C_drewN ?_ _) | (with_reducible refine Kd.C_drew ?_))); (case side2 => exact HC0.out); rintro e w' ⟨rfl, ⟨nd, rfl⟩⟩; refine ⟨_, rfl, ?_⟩))
  go_ret
  exact ⟨by first | rfl | (simp [errW_none, errW_some] <;> rfl) | (simp [*, errW_none, errW_some] <;> rfl), bw HB.out⟩
 rw [if_neg c6] at H
 have c6b0 : decide (t702 < 0) = false := decide_eq_false c6
 clear c6
 replace H := Option.bind_eq_some_iff.mp H
 obtain ⟨t703, A70, H⟩ := H
 replace H : ((laws_toIntS.f k l1).bind fun t706 => ((spec_GreatestRegret.f k t703 t706 a2).bind fun bt709 => ((laws_toJobSS.f k l0).bind fun t712 => ((laws_toIntS.f k l1).bind fun t715 => ((impl_GreatestRegret.f k t712 t715 a2).bind fun bt718 => (if bt718.1 = bt709.1 then (if bt718.2.1 = bt709.2.1 then (laws_FnExactGreatestRegret.j0 k l0 l1 t712 t715 (bt718.2.2 != bt709.2.2)) else (laws_FnExactGreatestRegret.j0 k l0 l1 t712 t715 true)) else (laws_FnExactGreatestRegret.j0 k l0 l1 t712 t715 true))))))) = some r := H
 have A7 := Aside0.mk A70
 clear A70
 replace H := Option.bind_eq_some_iff.mp H
 obtain ⟨t706, A80, H⟩ := H
 replace H : ((spec_GreatestRegret.f k t703 t706 a2).bind fun bt709 => ((laws_toJobSS.f k l0).bind fun t712 => ((laws_toIntS.f k l1).bind fun t715 => ((impl_GreatestRegret.f k t712 t715 a2).bind fun bt718 => (if bt718.1 = bt709.1 then (if bt718.2.1 = bt709.2.1 then (laws_FnExactGreatestRegret.j0 k l0 l1 t712 t715 (bt718.2.2 != bt709.2.2)) else (laws_FnExactGreatestRegret.j0 k l0 l1 t712 t715 true)) else (laws_FnExactGreatestRegret.j0 k l0 l1 t712 t715 true)))))) = some r := H
 have A8 := Aside0.mk A80
 clear A80
 replace H := Option.bind_eq_some_iff.mp H
 obtain ⟨⟨t709, t710, t711⟩, A90, H⟩ := H
 replace H : ((laws_toJobSS.f k l0).bind fun t712 => ((laws_toIntS.f k l1).bind fun t715 => ((impl_GreatestRegret.f k t712 t715 a2).bind fun bt718 => (if bt718.1 = t709 then (if bt718.2.1 = t710 then (laws_FnExactGreatestRegret.j0 k l0 l1 t712 t715 (bt718.2.2 != t711)) else (laws_FnExactGreatestRegret.j0 k l0 l1 t712 t715 true)) else (laws_FnExactGreatestRegret.j0 k l0 l1 t712 t715 true))))) = some r := H
 have A9 := Aside0.mk A90
 clear A90
 replace H := Option.bind_eq_some_iff.mp H
 obtain ⟨t712, A100, H⟩ := H
 replace H : ((laws_toIntS.f k l1).bind fun t715 => ((impl_GreatestRegret.f k t712 t715 a2).bind fun bt718 => (if bt718.1 = t709 then (if bt718.2.1 = t710 then (laws_FnExactGreatestRegret.j0 k l0 l1 t712 t715 (bt718.2.2 != t711)) else (laws_FnExactGreatestRegret.j0 k l0 l1 t712 t715 true)) else (laws_FnExactGreatestRegret.j0 k l0 l1 t712 t715 true)))) = some r := H
 have A10 := Aside0.mk A100
 clear A100
 replace H := Option.bind_eq_some_iff.mp H
 obtain ⟨t715, A110, H⟩ := H
 replace H : ((impl_GreatestRegret.f k t712 t715 a2).bind fun bt718 => (if bt718.1 = t709 then (if bt718.2.1 = t710 then (laws_FnExactGreatestRegret.j0 k l0 l1 t712 t715 (bt718.2.2 != t711)) else (laws_FnExactGreatestRegret.j0 k l0 l1 t712 t715 true)) else (laws_FnExactGreatestRegret.j0 k l0 l1 t712 t715 true))) = some r := H
 have A11 := Aside0.mk A110
 clear A110
 replace H := Option.bind_eq_some_iff.mp H
 obtain ⟨⟨t718, t719, t720⟩, A120, H⟩ := H
 replace H : (if t718 = t709 then (if t719 = t710 then (laws_FnExactGreatestRegret.j0 k l0 l1 t712 t715 (t720 != t711)) else (laws_FnExactGreatestRegret.j0 k l0 l1 t712 t715 true)) else (laws_FnExactGreatestRegret.j0 k l0 l1 t712 t715 true)) = some r := H
 have A12 := Aside0.mk A120
 clear A120
 have HC13 := Aside0.mk H
 clear H
 go_enter Try.func6, Try.ntmps6
 go_upto_region 11 with (first | ((with_reducible refine gate_callee (f := 21) rfl ?_); refine goesL_ (some 21) rfl rfl Try.func21 (by kernel_rfl) rfl #[.slice A0 l0.length c0, .int .i64 1048576] rfl (by (try simp only [mA_]); first | done | rfl | (simp only [List.length_drop, List.length_take]; rfl)) ?_; (with_reducible refine (laws_szJobSS.calls k _ _ l0 1048576 t702 _ ?side1 ?side2 A5.out).mono ?_); (case side1 => repeat (first | exact HR0.out | (with_reducible refine Kd.C_alloc ?_ _) | (with_reducible refine Kd.C_drewN ?_ _) | (with_reducible refine Kd.C_drew ?_))); (case side2 => exact HC0.out); rintro e w' ⟨rfl, ⟨nd, rfl⟩⟩; refine ⟨_, rfl, ?_⟩) | ((with_reducible refine gate_callee (f := 23) rfl ?_); refine goesL_ (some 26) rfl rfl Try.func23 (by kernel_rfl) rfl #[.slice A0 l0.length c0] rfl (by (try simp only [mA_]); first | done | rfl | (simp only [List.length_drop, List.length_take]; rfl)) ?_; (with_reducible refine (laws_toJobSS.calls k _ _ l0 t703 _ ?side1 ?side2 A7.out).mono ?_); (case side1 => repeat (first | exact HR0.out | (with_reducible refine Kd.C_alloc ?_ _) | (with_reducible refine Kd.C_drewN ?_ _) | (with_reducible refine Kd.C_drew ?_))); (case side2 => exact HC0.out); rintro e w14 ⟨v704, rfl, ho0, hb⟩; refine ⟨_, rfl, ?_⟩; have n0_ := Aside0.mk (Kd.S_lower ho0 (below_size (bw HB.out))); have n1_ := Aside0.mk (below_step (bw HB.out) hb); have HO705 := n0_; replace HB := n1_; clear n0_ n1_; (try clear hb); (try clear hb2); (try clear hk); (try clear hi); (try clear ho0)) | ((with_reducible refine gate_callee (f := 10) rfl ?_); refine goesL_ (some 28) rfl rfl Try.func10 (by kernel_rfl) rfl #[.slice A1 l1.length c1] rfl (by (try simp only [mA_]); first | done | rfl | (simp only [List.length_drop, List.length_take]; rfl)) ?_; (with_reducible refine (laws_toIntS.calls k _ _ l1 t706 _ ?side1 ?side2 A8.out).mono ?_); (case side1 => first | exact bC HR1.out HB.out | exact Kd.C_below HR1.out HB.out); (case side2 => exact HC1.out); rintro e w15 ⟨v707, rfl, ho0, hb⟩; refine ⟨_, rfl, ?_⟩; have n0_ := Aside0.mk (Kd.S_below (by (with_reducible repeat (first | apply Kd.S_alloc | apply Kd.S_drewN | apply Kd.S_drew)); exact HO705.out) hb); have n1_ := Aside0.mk (Kd.R_lower ho0 (below_size (bw HB.out))); have n2_ := Aside0.mk (below_step (bw HB.out) hb); replace HO705 := n0_; have HO708 := n1_; replace HB := n2_; clear n0_ n1_ n2_; (try clear hb); (try clear hb2); (try clear hk); (try clear hi); (try clear ho0); obtain ⟨Ao16, co16, eo16⟩ := Kd.S_slice HO705.out; subst eo16; obtain ⟨Ao17, co17, eo17⟩ := Kd.R_slice HO708.out; subst eo17) | ((with_reducible refine gate_callee (f := 22) rfl ?_); refine goesL_ (some 30) rfl rfl Try.func22 (by kernel_rfl) rfl #[.slice Ao16 t703.length co16, .slice Ao17 t706.length co17, .int .i64 a2] rfl (by (try simp only [mA_]); first | done | rfl | (simp only [List.length_drop, List.length_take]; rfl)) ?_; (with_reducible refine (spec_GreatestRegret.calls k _ _ t703 _ _ t706 a2 t709 t710 t711 _ ?side1 ?side2 ?side3 ?side4 A9.out).mono ?_); (case side1 => repeat (first | exact (Kd.S_reads' HO705.out).2.2 | (with_reducible refine Kd.C_alloc ?_ _) | (with_reducible refine Kd.C_drewN ?_ _) | (with_reducible refine Kd.C_drew ?_))); (case side2 => exact (Kd.S_reads' HO705.out).2.1); (case side3 => repeat (first | exact (Kd.R_reads' HO708.out).2.2 | (with_reducible refine Kd.C_alloc ?_ _) | (with_reducible refine Kd.C_drewN ?_ _) | (with_reducible refine Kd.C_drew ?_))); (case side4 => exact (Kd.R_reads' HO708.out).2.1); rintro e w18 ⟨rfl, hb⟩; refine ⟨_, rfl, ?_⟩; have n0_ := Aside0.mk (Kd.S_below (by (with_reducible repeat (first | apply Kd.S_alloc | apply Kd.S_drewN | apply Kd.S_drew)); exact HO705.out) hb); have n1_ := Aside0.mk (Kd.R_below (bR HO708.out) hb); have n2_ := Aside0.mk (below_step (bw HB.out) hb); replace HO705 := n0_; replace HO708 := n1_; replace HB := n2_; clear n0_ n1_ n2_; (try clear hb); (try clear hb2); (try clear hk); (try clear hi)) | ((with_reducible refine gate_callee (f := 23) rfl ?_); refine goesL_ (some 35) rfl rfl Try.func23 (by kernel_rfl) rfl #[.slice A0 l0.length c0] rfl (by (try simp only [mA_]); first | done | rfl | (simp only [List.length_drop, List.length_take]; rfl)) ?_; (with_reducible refine (laws_toJobSS.calls k _ _ l0 t712 _ ?side1 ?side2 A10.out).mono ?_); (case side1 => first | exact bC HR0.out HB.out | exact Kd.C_below HR0.out HB.out); (case side2 => exact HC0.out); rintro e w19 ⟨v713, rfl, ho0, hb⟩; refine ⟨_, rfl, ?_⟩; have n0_ := Aside0.mk (Kd.S_elder' (by (with_reducible repeat (first | apply Kd.S_alloc | apply Kd.S_drewN | apply Kd.S_drew)); exact HO705.out) (Kd.S_base ho0) hb); have n1_ := Aside0.mk (Kd.R_below (bR HO708.out) hb); have n2_ := Aside0.mk (Kd.S_lower (Kd.S_new' ho0 (Kd.S_lt (by (with_reducible repeat (first | apply Kd.S_alloc | apply Kd.S_drewN | apply Kd.S_drew)); exact HO705.out))) (below_size (bw HB.out))); have n3_ := Aside0.mk (below_step (bw HB.out) hb); replace HO705 := n0_; replace HO708 := n1_; have HO714 := n2_; replace HB := n3_; clear n0_ n1_ n2_ n3_; (try clear hb); (try clear hb2); (try clear hk); (try clear hi); (try clear ho0)) | ((with_reducible refine gate_callee (f := 10) rfl ?_); refine goesL_ (some 37) rfl rfl Try.func10 (by kernel_rfl) rfl #[.slice A1 l1.length c1] rfl (by (try simp only [mA_]); first | done | rfl | (simp only [List.length_drop, List.length_take]; rfl)) ?_; (with_reducible refine (laws_toIntS.calls k _ _ l1 t715 _ ?side1 ?side2 A11.out).mono ?_); (case side1 => first | exact bC HR1.out HB.out | exact Kd.C_below HR1.out HB.out); (case side2 => exact HC1.out); rintro e w20 ⟨v716, rfl, ho0, hb⟩; refine ⟨_, rfl, ?_⟩; have n0_ := Aside0.mk (Kd.S_below (by (with_reducible repeat (first | apply Kd.S_alloc | apply Kd.S_drewN | apply Kd.S_drew)); exact HO705.out) hb); have n1_ := Aside0.mk (Kd.R_elder' (bR HO708.out) (Kd.R_base ho0) hb); have n2_ := Aside0.mk (Kd.S_below (by (with_reducible repeat (first | apply Kd.S_alloc | apply Kd.S_drewN | apply Kd.S_drew)); exact HO714.out) hb); have n3_ := Aside0.mk (Kd.R_lower (Kd.R_new' ho0 (Kd.R_lt (bR HO708.out))) (below_size (bw HB.out))); have n4_ := Aside0.mk (below_step (bw HB.out) hb); replace HO705 := n0_; replace HO708 := n1_; replace HO714 := n2_; have HO717 := n3_; replace HB := n4_; clear n0_ n1_ n2_ n3_ n4_; (try clear hb); (try clear hb2); (try clear hk); (try clear hi); (try clear ho0); obtain ⟨Ao21, co21, eo21⟩ := Kd.S_slice HO714.out; subst eo21; obtain ⟨Ao22, co22, eo22⟩ := Kd.R_slice HO717.out; subst eo22) | ((with_reducible refine gate_callee (f := 24) rfl ?_); refine goesL_ (some 42) rfl rfl Try.func24 (by kernel_rfl) rfl #[.slice Ao21 t712.length co21, .slice Ao22 t715.length co22, .int .i64 a2] rfl (by (try simp only [mA_]); first | done | rfl | (simp only [List.length_drop, List.length_take]; rfl)) ?_; (with_reducible refine (impl_GreatestRegret.calls k _ _ t712 _ _ t715 a2 t718 t719 t720 _ ?side1 ?side2 ?side3 ?side4 A12.out).mono ?_); (case side1 => repeat (first | exact (Kd.S_reads' HO714.out).2.2 | (with_reducible refine Kd.C_alloc ?_ _) | (with_reducible refine Kd.C_drewN ?_ _) | (with_reducible refine Kd.C_drew ?_))); (case side2 => exact (Kd.S_reads' HO714.out).2.1); (case side3 => repeat (first | exact (Kd.R_reads' HO717.out).2.2 | (with_reducible refine Kd.C_alloc ?_ _) | (with_reducible refine Kd.C_drewN ?_ _) | (with_reducible refine Kd.C_drew ?_))); (case side4 => exact (Kd.R_reads' HO717.out).2.1); rintro e w23 ⟨rfl, hb⟩; refine ⟨_, rfl, ?_⟩; have n0_ := Aside0.mk (Kd.S_below (by (with_reducible repeat (first | apply Kd.S_alloc | apply Kd.S_drewN | apply Kd.S_drew)); exact HO705.out) hb); have n1_ := Aside0.mk (Kd.R_below (bR HO708.out) hb); have n2_ := Aside0.mk (Kd.S_below (by (with_reducible repeat (first | apply Kd.S_alloc | apply Kd.S_drewN | apply Kd.S_drew)); exact HO714.out) hb); have n3_ := Aside0.mk (Kd.R_below (bR HO717.out) hb); have n4_ := Aside0.mk (below_step (bw HB.out) hb); replace HO705 := n0_; replace HO708 := n1_; replace HO714 := n2_; replace HO717 := n3_; replace HB := n4_; clear n0_ n1_ n2_ n3_ n4_; (try clear hb); (try clear hb2); (try clear hk); (try clear hi)))
 (try simp only [Act.put, List.setIfInBounds_toArray, List.set_cons_zero, List.set_cons_succ])
 go_cut [58] (fun v58 wc => ∃ (kq : Nat) (x58_12 : Bool), v58 = .bool x58_12 ∧ Aside0 (laws_FnExactGreatestRegret.j0 kq l0 l1 t712 t715 x58_12 = some r) ∧ Aside0 (kq ≤ k) ∧ Aside0 (Kd.S (Kd.slice 61 k61) 27 wc w.heap.size (fun _ => True) (.slice Ao21 t712.length co21) t712) ∧ Aside0 (Kd.R (Kd.int .i64) 3 wc w.heap.size (fun _ => True) (.slice Ao22 t715.length co22) t715) ∧ Aside0 (Below w.heap.size w wc))
 case first =>
  have H := HC13.out
  clear HC13
  by_cases c24 : t718 = t709
  rotate_left
  ·rw [if_neg c24] at H
   have c24b0 : (t718 == t709) = false := beq_eq_false_iff_ne.mpr c24
   have c24b1 : (t718 != t709) = true := bne_iff_ne.mpr c24
   (first | rw [c24b0] | (simp only [i64_w, i32_w]; rw [c24b0]) | skip)
   have H' := Aside0.mk H
   clear H
   go_wp2
   go_meet
   case rel => exact ⟨_, (true), (by first | rfl | (simp; done) | (simp [*]; done)), H', ⟨by first | omega | exact Nat.le_refl _⟩, ⟨by (with_reducible repeat (first | apply Kd.S_alloc | apply Kd.S_drewN | apply Kd.S_drew)); exact Kd.S_mono HO714.out (fun _ hk => trivial)⟩, ⟨by (with_reducible repeat (first | apply Kd.R_alloc | apply Kd.R_drewN | apply Kd.R_drew)); exact Kd.R_mono HO717.out (fun _ hk => trivial)⟩, ⟨bw HB.out⟩⟩
  rw [if_pos c24] at H
  have c24b0 : (t718 == t709) = true := beq_iff_eq.mpr c24
  have c24b1 : (t718 != t709) = false := bne_eq_false_iff_eq.mpr c24
  clear c24
  (first | rw [c24b0] | (simp only [i64_w, i32_w]; rw [c24b0]) | skip)
  by_cases c25 : t719 = t710
  rotate_left
  ·rw [if_neg c25] at H
   have c25b0 : (t719 == t710) = false := beq_eq_false_iff_ne.mpr c25
   have c25b1 : (t719 != t710) = true := bne_iff_ne.mpr c25
   have H' := Aside0.mk H
   clear H
   go_wp2
   go_meet
   case rel => exact ⟨_, (true), (by first | rfl | (simp; done) | (simp [*]; done)), H', ⟨by first | omega | exact Nat.le_refl _⟩, ⟨by (with_reducible repeat (first | apply Kd.S_alloc | apply Kd.S_drewN | apply Kd.S_drew)); exact Kd.S_mono HO714.out (fun _ hk => trivial)⟩, ⟨by (with_reducible repeat (first | apply Kd.R_alloc | apply Kd.R_drewN | apply Kd.R_drew)); exact Kd.R_mono HO717.out (fun _ hk => trivial)⟩, ⟨bw HB.out⟩⟩
  rw [if_pos c25] at H
  have c25b0 : (t719 == t710) = true := beq_iff_eq.mpr c25
  have c25b1 : (t719 != t710) = false := bne_eq_false_iff_eq.mpr c25
  clear c25
  have H' := Aside0.mk H
  clear H
  go_wp2
  go_meet
  case rel => exact ⟨_, ((t720 != t711)), (by first | rfl | (simp; done) | (simp [*]; done)), H', ⟨by first | omega | exact Nat.le_refl _⟩, ⟨by (with_reducible repeat (first | apply Kd.S_alloc | apply Kd.S_drewN | apply Kd.S_drew)); exact Kd.S_mono HO714.out (fun _ hk => trivial)⟩, ⟨by (with_reducible repeat (first | apply Kd.R_alloc | apply Kd.R_drewN | apply Kd.R_drew)); exact Kd.R_mono HO717.out (fun _ hk => trivial)⟩, ⟨bw HB.out⟩⟩
 case rest =>
  clear HC13
  try clear c1
  try clear c2
  try clear p2
  try clear c4
  try clear c4b0
  try clear c4b1
  try clear c6
  try clear c6b0
  try clear c10
  try clear c21
  try clear c22
  try clear c23
  try clear c24
  try clear c24b0
  try clear c24b1
  try clear c25
  try clear c25b0
  try clear c25b1
  obtain ⟨kq, x58_12, rfl, HA, HJ12, HO_11, HO_12, HB⟩ := hcut
  cases kq with
  | zero => exact absurd HA.out (by simp [laws_FnExactGreatestRegret.j0])
  | succ kj12 =>
   have H := HA.out
   clear HA
   simp only [laws_FnExactGreatestRegret.j0] at H
   by_cases c26 : x58_12 = true
   ·subst c26
    have H1 : (some false) = some r := by rw [if_pos rfl] at H; exact H
    clear H
    have H := H1
    clear H1
    obtain rfl := Option.some.inj H
    go_wp2
    go_ret
    exact ⟨by first | rfl | (simp [errW_none, errW_some] <;> rfl) | (simp [*, errW_none, errW_some] <;> rfl), bw HB.out⟩
   replace c26 := Bool.eq_false_iff.mpr c26
   subst c26
   have H1 : ((laws_toJobSS.f kj12 l0).bind fun t721 => ((laws_eqJobSS.f kj12 t712 t721).bind fun t724 => (if t724 = true then ((laws_toIntS.f kj12 l1).bind fun t725 => ((laws_eqIntS.f kj12 t715 t725).bind fun t728 => (if t728 = true then (some true) else (some false)))) else (some false)))) = some r := by rw [if_neg (show ¬ (false = true) by decide)] at H; exact H
   clear H
   have H := H1
   clear H1
   replace H := Option.bind_eq_some_iff.mp H
   obtain ⟨t721, A270, H⟩ := H
   replace H : ((laws_eqJobSS.f kj12 t712 t721).bind fun t724 => (if t724 = true then ((laws_toIntS.f kj12 l1).bind fun t725 => ((laws_eqIntS.f kj12 t715 t725).bind fun t728 => (if t728 = true then (some true) else (some false)))) else (some false))) = some r := H
   have A27 := Aside0.mk A270
   clear A270
   replace H := Option.bind_eq_some_iff.mp H
   obtain ⟨t724, A280, H⟩ := H
   replace H : (if t724 = true then ((laws_toIntS.f kj12 l1).bind fun t725 => ((laws_eqIntS.f kj12 t715 t725).bind fun t728 => (if t728 = true then (some true) else (some false)))) else (some false)) = some r := H
   have A28 := Aside0.mk A280
   clear A280
   by_cases c29 : t724 = true
   rotate_left
   ·replace c29 := Bool.eq_false_iff.mpr c29
    subst c29
    have H1 : (some false) = some r := by rw [if_neg (show ¬ (false = true) by decide)] at H; exact H
    clear H
    have H := H1
    clear H1
    obtain rfl := Option.some.inj H
    go_wp2_with (first | ((with_reducible refine gate_callee (f := 23) rfl ?_); refine goesL_ (some 61) rfl rfl Try.func23 (by kernel_rfl) rfl #[.slice A0 l0.length c0] rfl (by (try simp only [mA_]); first | done | rfl | (simp only [List.length_drop, List.length_take]; rfl)) ?_; (with_reducible refine (laws_toJobSS.calls kj12 _ _ l0 t721 _ ?side1 ?side2 A27.out).mono ?_); (case side1 => first | exact bC HR0.out HB.out | exact Kd.C_below HR0.out HB.out); (case side2 => exact HC0.out); rintro e w43 ⟨v722, rfl, ho0, hb⟩; refine ⟨_, rfl, ?_⟩; have n0_ := Aside0.mk (Kd.S_elder' (by (with_reducible repeat (first | apply Kd.S_alloc | apply Kd.S_drewN | apply Kd.S_drew)); exact HO_11.out) (Kd.S_base ho0) hb); have n1_ := Aside0.mk (Kd.R_below (bR HO_12.out) hb); have n2_ := Aside0.mk (Kd.S_lower (Kd.S_new' ho0 (Kd.S_lt (by (with_reducible repeat (first | apply Kd.S_alloc | apply Kd.S_drewN | apply Kd.S_drew)); exact HO_11.out))) (below_size (bw HB.out))); have n3_ := Aside0.mk (below_step (bw HB.out) hb); replace HO_11 := n0_; replace HO_12 := n1_; have HO723 := n2_; replace HB := n3_; clear n0_ n1_ n2_ n3_; (try clear hb); (try clear hb2); (try clear hk); (try clear hi); (try clear ho0); obtain ⟨Ao44, co44, eo44⟩ := Kd.S_slice HO723.out; subst eo44) | ((with_reducible refine gate_callee (f := 25) rfl ?_); refine goesL_ (some 62) rfl rfl Try.func25 (by kernel_rfl) rfl #[.slice Ao21 t712.length co21, .slice Ao44 t721.length co44] rfl (by (try simp only [mA_]); first | done | rfl | (simp only [List.length_drop, List.length_take]; rfl)) ?_; (with_reducible refine (laws_eqJobSS.calls kj12 _ _ t712 _ _ t721 false _ ?side1 ?side2 ?side3 ?side4 A28.out).mono ?_); (case side1 => repeat (first | exact (Kd.S_reads' HO_11.out).2.2 | (with_reducible refine Kd.C_alloc ?_ _) | (with_reducible refine Kd.C_drewN ?_ _) | (with_reducible refine Kd.C_drew ?_))); (case side2 => exact (Kd.S_reads' HO_11.out).2.1); (case side3 => repeat (first | exact (Kd.S_reads' HO723.out).2.2 | (with_reducible refine Kd.C_alloc ?_ _) | (with_reducible refine Kd.C_drewN ?_ _) | (with_reducible refine Kd.C_drew ?_))); (case side4 => exact (Kd.S_reads' HO723.out).2.1); rintro e w45 ⟨rfl, hb⟩; refine ⟨_, rfl, ?_⟩; have n0_ := Aside0.mk (Kd.S_below (by (with_reducible repeat (first | apply Kd.S_alloc | apply Kd.S_drewN | apply Kd.S_drew)); exact HO_11.out) hb); have n1_ := Aside0.mk (Kd.R_below (bR HO_12.out) hb); have n2_ := Aside0.mk (Kd.S_below (by (with_reducible repeat (first | apply Kd.S_alloc | apply Kd.S_drewN | apply Kd.S_drew)); exact HO723.out) hb); have n3_ := Aside0.mk (below_step (bw HB.out) hb); replace HO_11 := n0_; replace HO_12 := n1_; replace HO723 := n2_; replace HB := n3_; clear n0_ n1_ n2_ n3_; (try clear hb); (try clear hb2); (try clear hk); (try clear hi)))
    go_ret
    exact ⟨by first | rfl | (simp [errW_none, errW_some] <;> rfl) | (simp [*, errW_none, errW_some] <;> rfl), bw HB.out⟩
   subst c29
   have H1 : ((laws_toIntS.f kj12 l1).bind fun t725 => ((laws_eqIntS.f kj12 t715 t725).bind fun t728 => (if t728 = true then (some true) else (some false)))) = some r := by rw [if_pos rfl] at H; exact H
   clear H
   have H := H1
   clear H1
   replace H := Option.bind_eq_some_iff.mp H
   obtain ⟨t725, A300, H⟩ := H
   replace H : ((laws_eqIntS.f kj12 t715 t725).bind fun t728 => (if t728 = true then (some true) else (some false))) = some r := H
   have A30 := Aside0.mk A300
   clear A300
   replace H := Option.bind_eq_some_iff.mp H
   obtain ⟨t728, A310, H⟩ := H
   replace H : (if t728 = true then (some true) else (some false)) = some r := H
   have A31 := Aside0.mk A310
   clear A310
   by_cases c32 : t728 = true
   ·subst c32
    have H1 : (some true) = some r := by rw [if_pos rfl] at H; exact H
    clear H
    have H := H1
    clear H1
    obtain rfl := Option.some.inj H
    go_wp2_with (first | ((with_reducible refine gate_callee (f := 23) rfl ?_); refine goesL_ (some 61) rfl rfl Try.func23 (by kernel_rfl) rfl #[.slice A0 l0.length c0] rfl (by (try simp only [mA_]); first | done | rfl | (simp only [List.length_drop, List.length_take]; rfl)) ?_; (with_reducible refine (laws_toJobSS.calls kj12 _ _ l0 t721 _ ?side1 ?side2 A27.out).mono ?_); (case side1 => first | exact bC HR0.out HB.out | exact Kd.C_below HR0.out HB.out); (case side2 => exact HC0.out); rintro e w33 ⟨v722, rfl, ho0, hb⟩; refine ⟨_, rfl, ?_⟩; have n0_ := Aside0.mk (Kd.S_elder' (by (with_reducible repeat (first | apply Kd.S_alloc | apply Kd.S_drewN | apply Kd.S_drew)); exact HO_11.out) (Kd.S_base ho0) hb); have n1_ := Aside0.mk (Kd.R_below (bR HO_12.out) hb); have n2_ := Aside0.mk (Kd.S_lower (Kd.S_new' ho0 (Kd.S_lt (by (with_reducible repeat (first | apply Kd.S_alloc | apply Kd.S_drewN | apply Kd.S_drew)); exact HO_11.out))) (below_size (bw HB.out))); have n3_ := Aside0.mk (below_step (bw HB.out) hb); replace HO_11 := n0_; replace HO_12 := n1_; have HO723 := n2_; replace HB := n3_; clear n0_ n1_ n2_ n3_; (try clear hb); (try clear hb2); (try clear hk); (try clear hi); (try clear ho0); obtain ⟨Ao34, co34, eo34⟩ := Kd.S_slice HO723.out; subst eo34) | ((with_reducible refine gate_callee (f := 25) rfl ?_); refine goesL_ (some 62) rfl rfl Try.func25 (by kernel_rfl) rfl #[.slice Ao21 t712.length co21, .slice Ao34 t721.length co34] rfl (by (try simp only [mA_]); first | done | rfl | (simp only [List.length_drop, List.length_take]; rfl)) ?_; (with_reducible refine (laws_eqJobSS.calls kj12 _ _ t712 _ _ t721 true _ ?side1 ?side2 ?side3 ?side4 A28.out).mono ?_); (case side1 => repeat (first | exact (Kd.S_reads' HO_11.out).2.2 | (with_reducible refine Kd.C_alloc ?_ _) | (with_reducible refine Kd.C_drewN ?_ _) | (with_reducible refine Kd.C_drew ?_))); (case side2 => exact (Kd.S_reads' HO_11.out).2.1); (case side3 => repeat (first | exact (Kd.S_reads' HO723.out).2.2 | (with_reducible refine Kd.C_alloc ?_ _) | (with_reducible refine Kd.C_drewN ?_ _) | (with_reducible refine Kd.C_drew ?_))); (case side4 => exact (Kd.S_reads' HO723.out).2.1); rintro e w35 ⟨rfl, hb⟩; refine ⟨_, rfl, ?_⟩; have n0_ := Aside0.mk (Kd.S_below (by (with_reducible repeat (first | apply Kd.S_alloc | apply Kd.S_drewN | apply Kd.S_drew)); exact HO_11.out) hb); have n1_ := Aside0.mk (Kd.R_below (bR HO_12.out) hb); have n2_ := Aside0.mk (Kd.S_below (by (with_reducible repeat (first | apply Kd.S_alloc | apply Kd.S_drewN | apply Kd.S_drew)); exact HO723.out) hb); have n3_ := Aside0.mk (below_step (bw HB.out) hb); replace HO_11 := n0_; replace HO_12 := n1_; replace HO723 := n2_; replace HB := n3_; clear n0_ n1_ n2_ n3_; (try clear hb); (try clear hb2); (try clear hk); (try clear hi)) | ((with_reducible refine gate_callee (f := 10) rfl ?_); refine goesL_ (some 66) rfl rfl Try.func10 (by kernel_rfl) rfl #[.slice A1 l1.length c1] rfl (by (try simp only [mA_]); first | done | rfl | (simp only [List.length_drop, List.length_take]; rfl)) ?_; (with_reducible refine (laws_toIntS.calls kj12 _ _ l1 t725 _ ?side1 ?side2 A30.out).mono ?_); (case side1 => first | exact bC HR1.out HB.out | exact Kd.C_below HR1.out HB.out); (case side2 => exact HC1.out); rintro e w36 ⟨v726, rfl, ho0, hb⟩; refine ⟨_, rfl, ?_⟩; have n0_ := Aside0.mk (Kd.S_below (by (with_reducible repeat (first | apply Kd.S_alloc | apply Kd.S_drewN | apply Kd.S_drew)); exact HO_11.out) hb); have n1_ := Aside0.mk (Kd.R_elder' (bR HO_12.out) (Kd.R_base ho0) hb); have n2_ := Aside0.mk (Kd.S_below (by (with_reducible repeat (first | apply Kd.S_alloc | apply Kd.S_drewN | apply Kd.S_drew)); exact HO723.out) hb); have n3_ := Aside0.mk (Kd.R_lower (Kd.R_new' ho0 (Kd.R_lt (bR HO_12.out))) (below_size (bw HB.out))); have n4_ := Aside0.mk (below_step (bw HB.out) hb); replace HO_11 := n0_; replace HO_12 := n1_; replace HO723 := n2_; have HO727 := n3_; replace HB := n4_; clear n0_ n1_ n2_ n3_ n4_; (try clear hb); (try clear hb2); (try clear hk); (try clear hi); (try clear ho0); obtain ⟨Ao37, co37, eo37⟩ := Kd.R_slice HO727.out; subst eo37) | ((with_reducible refine gate_callee (f := 13) rfl ?_); refine goesL_ (some 67) rfl rfl Try.func13 (by kernel_rfl) rfl #[.slice Ao22 t715.length co22, .slice Ao37 t725.length co37] rfl (by (try simp only [mA_]); first | done | rfl | (simp only [List.length_drop, List.length_take]; rfl)) ?_; (with_reducible refine (laws_eqIntS.calls kj12 _ _ t715 _ _ t725 true _ ?side1 ?side2 ?side3 ?side4 A31.out).mono ?_); (case side1 => repeat (first | exact (Kd.R_reads' HO_12.out).2.2 | (with_reducible refine Kd.C_alloc ?_ _) | (with_reducible refine Kd.C_drewN ?_ _) | (with_reducible refine Kd.C_drew ?_))); (case side2 => exact (Kd.R_reads' HO_12.out).2.1); (case side3 => repeat (first | exact (Kd.R_reads' HO727.out).2.2 | (with_reducible refine Kd.C_alloc ?_ _) | (with_reducible refine Kd.C_drewN ?_ _) | (with_reducible refine Kd.C_drew ?_))); (case side4 => exact (Kd.R_reads' HO727.out).2.1); rintro e w' ⟨rfl, ⟨nd, rfl⟩⟩; refine ⟨_, rfl, ?_⟩))
    go_ret
    exact ⟨by first | rfl | (simp [errW_none, errW_some] <;> rfl) | (simp [*, errW_none, errW_some] <;> rfl), bw HB.out⟩
   replace c32 := Bool.eq_false_iff.mpr c32
   subst c32
   have H1 : (some false) = some r := by rw [if_neg (show ¬ (false = true) by decide)] at H; exact H
   clear H
   have H := H1
   clear H1
   obtain rfl := Option.some.inj H
   go_wp2_with (first | ((with_reducible refine gate_callee (f := 23) rfl ?_); refine goesL_ (some 61) rfl rfl Try.func23 (by kernel_rfl) rfl #[.slice A0 l0.length c0] rfl (by (try simp only [mA_]); first | done | rfl | (simp only [List.length_drop, List.length_take]; rfl)) ?_; (with_reducible refine (laws_toJobSS.calls kj12 _ _ l0 t721 _ ?side1 ?side2 A27.out).mono ?_); (case side1 => first | exact bC HR0.out HB.out | exact Kd.C_below HR0.out HB.out); (case side2 => exact HC0.out); rintro e w38 ⟨v722, rfl, ho0, hb⟩; refine ⟨_, rfl, ?_⟩; have n0_ := Aside0.mk (Kd.S_elder' (by (with_reducible repeat (first | apply Kd.S_alloc | apply Kd.S_drewN | apply Kd.S_drew)); exact HO_11.out) (Kd.S_base ho0) hb); have n1_ := Aside0.mk (Kd.R_below (bR HO_12.out) hb); have n2_ := Aside0.mk (Kd.S_lower (Kd.S_new' ho0 (Kd.S_lt (by (with_reducible repeat (first | apply Kd.S_alloc | apply Kd.S_drewN | apply Kd.S_drew)); exact HO_11.out))) (below_size (bw HB.out))); have n3_ := Aside0.mk (below_step (bw HB.out) hb); replace HO_11 := n0_; replace HO_12 := n1_; have HO723 := n2_; replace HB := n3_; clear n0_ n1_ n2_ n3_; (try clear hb); (try clear hb2); (try clear hk); (try clear hi); (try clear ho0); obtain ⟨Ao39, co39, eo39⟩ := Kd.S_slice HO723.out; subst eo39) | ((with_reducible refine gate_callee (f := 25) rfl ?_); refine goesL_ (some 62) rfl rfl Try.func25 (by kernel_rfl) rfl #[.slice Ao21 t712.length co21, .slice Ao39 t721.length co39] rfl (by (try simp only [mA_]); first | done | rfl | (simp only [List.length_drop, List.length_take]; rfl)) ?_; (with_reducible refine (laws_eqJobSS.calls kj12 _ _ t712 _ _ t721 true _ ?side1 ?side2 ?side3 ?side4 A28.out).mono ?_); (case side1 => repeat (first | exact (Kd.S_reads' HO_11.out).2.2 | (with_reducible refine Kd.C_alloc ?_ _) | (with_reducible refine Kd.C_drewN ?_ _) | (with_reducible refine Kd.C_drew ?_))); (case side2 => exact (Kd.S_reads' HO_11.out).2.1); (case side3 => repeat (first | exact (Kd.S_reads' HO723.out).2.2 | (with_reducible refine Kd.C_alloc ?_ _) | (with_reducible refine Kd.C_drewN ?_ _) | (with_reducible refine Kd.C_drew ?_))); (case side4 => exact (Kd.S_reads' HO723.out).2.1); rintro e w40 ⟨rfl, hb⟩; refine ⟨_, rfl, ?_⟩; have n0_ := Aside0.mk (Kd.S_below (by (with_reducible repeat (first | apply Kd.S_alloc | apply Kd.S_drewN | apply Kd.S_drew)); exact HO_11.out) hb); have n1_ := Aside0.mk (Kd.R_below (bR HO_12.out) hb); have n2_ := Aside0.mk (Kd.S_below (by (with_reducible repeat (first | apply Kd.S_alloc | apply Kd.S_drewN | apply Kd.S_drew)); exact HO723.out) hb); have n3_ := Aside0.mk (below_step (bw HB.out) hb); replace HO_11 := n0_; replace HO_12 := n1_; replace HO723 := n2_; replace HB := n3_; clear n0_ n1_ n2_ n3_; (try clear hb); (try clear hb2); (try clear hk); (try clear hi)) | ((with_reducible refine gate_callee (f := 10) rfl ?_); refine goesL_ (some 66) rfl rfl Try.func10 (by kernel_rfl) rfl #[.slice A1 l1.length c1] rfl (by (try simp only [mA_]); first | done | rfl | (simp only [List.length_drop, List.length_take]; rfl)) ?_; (with_reducible refine (laws_toIntS.calls kj12 _ _ l1 t725 _ ?side1 ?side2 A30.out).mono ?_); (case side1 => first | exact bC HR1.out HB.out | exact Kd.C_below HR1.out HB.out); (case side2 => exact HC1.out); rintro e w41 ⟨v726, rfl, ho0, hb⟩; refine ⟨_, rfl, ?_⟩; have n0_ := Aside0.mk (Kd.S_below (by (with_reducible repeat (first | apply Kd.S_alloc | apply Kd.S_drewN | apply Kd.S_drew)); exact HO_11.out) hb); have n1_ := Aside0.mk (Kd.R_elder' (bR HO_12.out) (Kd.R_base ho0) hb); have n2_ := Aside0.mk (Kd.S_below (by (with_reducible repeat (first | apply Kd.S_alloc | apply Kd.S_drewN | apply Kd.S_drew)); exact HO723.out) hb); have n3_ := Aside0.mk (Kd.R_lower (Kd.R_new' ho0 (Kd.R_lt (bR HO_12.out))) (below_size (bw HB.out))); have n4_ := Aside0.mk (below_step (bw HB.out) hb); replace HO_11 := n0_; replace HO_12 := n1_; replace HO723 := n2_; have HO727 := n3_; replace HB := n4_; clear n0_ n1_ n2_ n3_ n4_; (try clear hb); (try clear hb2); (try clear hk); (try clear hi); (try clear ho0); obtain ⟨Ao42, co42, eo42⟩ := Kd.R_slice HO727.out; subst eo42) | ((with_reducible refine gate_callee (f := 13) rfl ?_); refine goesL_ (some 67) rfl rfl Try.func13 (by kernel_rfl) rfl #[.slice Ao22 t715.length co22, .slice Ao42 t725.length co42] rfl (by (try simp only [mA_]); first | done | rfl | (simp only [List.length_drop, List.length_take]; rfl)) ?_; (with_reducible refine (laws_eqIntS.calls kj12 _ _ t715 _ _ t725 false _ ?side1 ?side2 ?side3 ?side4 A31.out).mono ?_); (case side1 => repeat (first | exact (Kd.R_reads' HO_12.out).2.2 | (with_reducible refine Kd.C_alloc ?_ _) | (with_reducible refine Kd.C_drewN ?_ _) | (with_reducible refine Kd.C_drew ?_))); (case side2 => exact (Kd.R_reads' HO_12.out).2.1); (case side3 => repeat (first | exact (Kd.R_reads' HO727.out).2.2 | (with_reducible refine Kd.C_alloc ?_ _) | (with_reducible refine Kd.C_drewN ?_ _) | (with_reducible refine Kd.C_drew ?_))); (case side4 => exact (Kd.R_reads' HO727.out).2.1); rintro e w' ⟨rfl, ⟨nd, rfl⟩⟩; refine ⟨_, rfl, ?_⟩))
   go_ret
   exact ⟨by first | rfl | (simp [errW_none, errW_some] <;> rfl) | (simp [*, errW_none, errW_some] <;> rfl), bw HB.out⟩

end Go.Proofs.Ytoagdnojoodloaa.X
