-- Written by a program of this session (wip/gen/xp.py, over the kit's printer). Not trusted: Lean checks it.
import Derived.Test.YtgpnophjbibhhaaX0
import Derived.Test.YtgpnophjbibhhaaXf15
import Derived.Test.YtgpnophjbibhhaaXf18
import Derived.Test.YtgpnophjbibhhaaXf21
import Derived.Test.YtgpnophjbibhhaaXf24
import Derived.Test.YtgpnophjbibhhaaXf26
import Derived.Test.YtgpnophjbibhhaaXf27
import Derived.Test.YtgpnophjbibhhaaXf28
import Derived.Test.YtgpnophjbibhhaaXf29
import Derived.Test.YtgpnophjbibhhaaXf42
namespace Go.Proofs.Ytgpnophjbibhhaa.X
open Go.RowKit Go.Proofs.YtgpnophjbibhhaaW.PrintWords Go.Proofs.YtgpnophjbibhhaaW.PrintLast Go.Proofs.YtgpnophjbibhhaaW.PrintMore
attribute [local go_sem] max2_int min2_int max_two min_two max_three min_three max_four min_four   -- for this text's walks alone
set_option linter.unusedVariables false
set_option linter.unusedSimpArgs false

/-! ### laws_heldIntSS: function 30 -/
def laws_heldIntSS.l0 : Nat → List (List Int) → Int → Int → Option (Int)
 | 0, _, _, _ => none
 | k + 1, x0, x1, x5 => if x5 < (x0.length : Int) then (if 0 ≤ x5 then ((laws_heldIntS.f k (rd_L4 x0 x5) x1).bind fun t465 => (if t465 < 0 then (some (-1)) else (laws_heldIntSS.l0 k x0 t465 (wrap64 (x5 + 1))))) else (none)) else (some x1)
def laws_heldIntSS.f (k : Nat) (l0 : List (List Int)) (a1 : Int) : Option (Int) := laws_heldIntSS.l0 k l0 a1 0
theorem laws_heldIntSS.mono_l : ∀ k, (∀ y0 y1 y2, LeO (laws_heldIntSS.l0 k y0 y1 y2) (laws_heldIntSS.l0 (k + 1) y0 y1 y2))
 | 0 => fun _ _ _ r h => by simp [laws_heldIntSS.l0] at h
 | k + 1 => by
  have ih0 := laws_heldIntSS.mono_l k
  ·intro y0 y1 y2
   unfold laws_heldIntSS.l0
   repeat' first
   | (with_reducible exact ih0 _ _ _)
   | (with_reducible exact laws_heldIntS.mono _ _ _)
   | (with_reducible exact LeO.refl _)
   | (with_reducible exact LeO.none _)
   | (with_reducible refine LeO.ite ?_ ?_)
   | (with_reducible refine LeO.bind ?_ (fun _ => ?_))
   | exact ih0 _ _ _
   | exact laws_heldIntS.mono _ _ _
   | exact LeO.none _
   | refine LeO.ite ?_ ?_
   | refine LeO.bind ?_ (fun _ => ?_)
theorem laws_heldIntSS.mono : ∀ a0 a1 k, LeO (laws_heldIntSS.f k a0 a1) (laws_heldIntSS.f (k + 1) a0 a1) := by
 intro a0 a1 k
 have ih0 := laws_heldIntSS.mono_l k
 unfold laws_heldIntSS.f
 repeat' first
   | (with_reducible exact ih0 _ _ _)
   | (with_reducible exact laws_heldIntS.mono _ _ _)
   | (with_reducible exact LeO.refl _)
   | (with_reducible exact LeO.none _)
   | (with_reducible refine LeO.ite ?_ ?_)
   | (with_reducible refine LeO.bind ?_ (fun _ => ?_))
   | exact ih0 _ _ _
   | exact laws_heldIntS.mono _ _ _
   | exact LeO.none _
   | refine LeO.ite ?_ ?_
   | refine LeO.bind ?_ (fun _ => ?_)
set_option maxHeartbeats 8000000 in
set_option maxRecDepth 100000 in
theorem laws_heldIntSS.calls (k : Nat) (A0 : Option Addr) (c0 : Nat) (l0 : List (List Int)) (a1 : Int) (r : Int) (w : World) (hr0 : Kd.C (Kd.slice 3 (Kd.int .i64)) w A0 l0.length l0) (hc0 : l0.length ≤ c0) (h : laws_heldIntSS.f k l0 a1 = some r) :
  Calls Try.prog 30 #[.slice A0 l0.length c0, .int .i64 a1] w fun e w' => e = .returned (.int .i64 r) ∧ Drawn0 w w' := by
 have HR0 := Aside0.mk hr0
 have HC0 := Aside0.mk hc0
 clear hr0 hc0
 have H : (laws_heldIntSS.l0 k l0 a1 0) = some r := h
 clear h
 have H' := Aside0.mk H
 clear H
 go_enter Try.func30, Try.ntmps30
 go_wp2
 go_loopg [1, 5] k (fun kq v1 v5 w' => ∃ (x1_1 : Int) (x5_1 : Int), v1 = .int .i64 x1_1 ∧ v5 = .int .i64 x5_1 ∧ Aside0 (laws_heldIntSS.l0 kq l0 x1_1 x5_1 = some r) ∧ Aside0 (kq ≤ k) ∧ Drawn0 w w')
 case atStart => exact ⟨(a1), (0), (by first | rfl | (simp; done) | (simp [*]; done)), (by first | rfl | (simp; done) | (simp [*]; done)), H', ⟨Nat.le_refl _⟩, by repeat (first | exact Drawn0.refl _ | apply Drawn0.step)⟩
 case round =>
  clear H'
  try clear p2
  obtain ⟨x1_1, x5_1, rfl, rfl, HA, HK1, ⟨m1, rfl⟩⟩ := hrel
  cases gk with
  | zero => exact absurd HA.out (by simp [laws_heldIntSS.l0])
  | succ k1 =>
   have H := HA.out
   clear HA
   simp only [laws_heldIntSS.l0] at H
   by_cases c3 : x5_1 < (l0.length : Int)
   rotate_left
   ·rw [if_neg c3] at H
    have c3b0 : decide (x5_1 < (l0.length : Int)) = false := decide_eq_false c3
    clear c3
    obtain rfl := Option.some.inj H
    go_wp2
    go_ret
    exact ⟨by first | rfl | (simp; done) | (simp [*]; done), by repeat (first | exact Drawn0.refl _ | apply Drawn0.step)⟩
   rw [if_pos c3] at H
   have c3b0 : decide (x5_1 < (l0.length : Int)) = true := decide_eq_true c3
   clear c3
   by_cases c4 : 0 ≤ x5_1
   rotate_left
   ·rw [if_neg c4] at H
    exact absurd H (by simp)
   rw [if_pos c4] at H
   have c4b0 : decide (0 ≤ x5_1) = true := decide_eq_true c4
   clear c4
   replace H := Option.bind_eq_some_iff.mp H
   obtain ⟨t465, A50, H⟩ := H
   replace H : (if t465 < 0 then (some (-1)) else (laws_heldIntSS.l0 k1 l0 t465 (wrap64 (x5_1 + 1)))) = some r := H
   have A5 := Aside0.mk A50
   clear A50
   by_cases c6 : t465 < 0
   ·rw [if_pos c6] at H
    have c6b0 : decide (t465 < 0) = true := decide_eq_true c6
    clear c6
    obtain rfl := Option.some.inj H
    have p464 : 0 ≤ (x5_1 : Int) := of_decide_eq_true (by first | (with_reducible assumption) | assumption)
    have q464 : x5_1 < (l0.length : Int) := of_decide_eq_true (by first | (with_reducible assumption) | assumption)
    obtain ⟨ad464, A464_0, c464_0, e464, hx464_0, hl464_0, hi464_0⟩ := at_L4 HR0.out x5_1 p464 q464
    cases e464
    have HR464_0 := Aside0.mk hi464_0
    have HC464_0 := Aside0.mk hl464_0
    clear hi464_0 hl464_0
    replace p464 := eq_true p464
    replace q464 := eq_true q464
    go_wp2_with (first | ((with_reducible refine gate_callee (f := 42) rfl ?_); refine goesL_ (some 17) rfl rfl Try.func42 (by kernel_rfl) rfl #[.slice A464_0 (rd_L4 l0 x5_1).length c464_0, .int .i64 x1_1] rfl (by (try simp only [mA_]); first | done | rfl | (simp only [List.length_drop, List.length_take]; rfl)) ?_; (with_reducible refine (laws_heldIntS.calls k1 _ _ (rd_L4 l0 x5_1) x1_1 t465 _ ?side1 ?side2 A5.out).mono ?_); (case side1 => repeat (first | exact HR464_0.out | (with_reducible refine Kd.C_alloc ?_ _) | (with_reducible refine Kd.C_drewN ?_ _) | (with_reducible refine Kd.C_drew ?_))); (case side2 => exact HC464_0.out); rintro e w' ⟨rfl, ⟨nd, rfl⟩⟩; refine ⟨_, rfl, ?_⟩))
    go_ret
    exact ⟨by first | rfl | (simp; done) | (simp [*]; done), by repeat (first | exact Drawn0.refl _ | apply Drawn0.step)⟩
   rw [if_neg c6] at H
   have c6b0 : decide (t465 < 0) = false := decide_eq_false c6
   clear c6
   have H' := Aside0.mk H
   clear H
   have p464 : 0 ≤ (x5_1 : Int) := of_decide_eq_true (by first | (with_reducible assumption) | assumption)
   have q464 : x5_1 < (l0.length : Int) := of_decide_eq_true (by first | (with_reducible assumption) | assumption)
   obtain ⟨ad464, A464_0, c464_0, e464, hx464_0, hl464_0, hi464_0⟩ := at_L4 HR0.out x5_1 p464 q464
   cases e464
   have HR464_0 := Aside0.mk hi464_0
   have HC464_0 := Aside0.mk hl464_0
   clear hi464_0 hl464_0
   replace p464 := eq_true p464
   replace q464 := eq_true q464
   go_wp2_with (first | ((with_reducible refine gate_callee (f := 42) rfl ?_); refine goesL_ (some 17) rfl rfl Try.func42 (by kernel_rfl) rfl #[.slice A464_0 (rd_L4 l0 x5_1).length c464_0, .int .i64 x1_1] rfl (by (try simp only [mA_]); first | done | rfl | (simp only [List.length_drop, List.length_take]; rfl)) ?_; (with_reducible refine (laws_heldIntS.calls k1 _ _ (rd_L4 l0 x5_1) x1_1 t465 _ ?side1 ?side2 A5.out).mono ?_); (case side1 => repeat (first | exact HR464_0.out | (with_reducible refine Kd.C_alloc ?_ _) | (with_reducible refine Kd.C_drewN ?_ _) | (with_reducible refine Kd.C_drew ?_))); (case side2 => exact HC464_0.out); rintro e w' ⟨rfl, ⟨nd, rfl⟩⟩; refine ⟨_, rfl, ?_⟩))
   go_roundg k1
   case measure => have := HK1.out; omega
   case rel => exact ⟨(t465), (wrap64 (x5_1 + 1)), (by first | rfl | (simp; done) | (simp [*]; done)), (by first | rfl | (simp; done) | (simp [*]; done)), H', ⟨by have := HK1.out; omega⟩, by repeat (first | exact Drawn0.refl _ | apply Drawn0.step)⟩

/-! ### laws_FnExactBlocksOf: function 5 -/
def laws_FnExactBlocksOf.f (k : Nat) (l0 : List (S96)) (l1 : List Int) : Option (Bool) := (if (l1.length : Int) > 1048576 then some true else ((laws_szJobS.f l0 1048576).bind fun t1 => (if t1 < 0 then some true else ((laws_toJobS.f k l0).bind fun t2 => ((laws_toIntS.f k l1).bind fun t3 => ((spec_BlocksOf.f k t2 t3).bind fun bt4 => ((laws_toJobS.f k l0).bind fun t6 => ((laws_toIntS.f k l1).bind fun t7 => ((impl_BlocksOf.f k t6 t7).bind fun bt8 => ((laws_eqIntSS.f k bt8.1 bt4.1).bind fun t10 => (if t10 = true then (if bt8.2 = bt4.2 then ((laws_toJobS.f k l0).bind fun t11 => ((laws_eqJobS.f k t6 t11).bind fun t12 => (if t12 = true then ((laws_toIntS.f k l1).bind fun t13 => ((laws_eqIntS.f k t7 t13).bind fun t14 => (if t14 = true then ((laws_markJobS.f k t6 1).bind fun bt15 => ((laws_markIntS.f k t7 bt15.1).bind fun bt17 => (if bt17.1 < 0 then none else ((laws_eqIntSS.f k bt8.1 bt4.1).bind fun t19 => (if t19 = true then (if bt8.2 = bt4.2 then ((laws_markIntSS.f k bt8.1 1).bind fun bt20 => ((laws_heldIntSS.f k bt20.2 1).bind fun t22 => (if t22 < 0 then none else (if t22 = bt20.1 then ((laws_toJobS.f k l0).bind fun t23 => ((laws_toIntS.f k l1).bind fun t24 => ((impl_BlocksOf.f k t23 t24).bind fun bt25 => ((laws_eqIntSS.f k bt25.1 bt4.1).bind fun t27 => (if t27 = true then (if bt25.2 = bt4.2 then ((laws_heldIntSS.f k bt20.2 1).bind fun t28 => (if t28 < 0 then none else (if t28 = bt20.1 then some true else none))) else none) else none))))) else none)))) else none) else none))))) else none))) else none))) else none) else none)))))))))))
theorem laws_FnExactBlocksOf.mono : ∀ l0 l1 k, LeO (laws_FnExactBlocksOf.f k l0 l1) (laws_FnExactBlocksOf.f (k + 1) l0 l1) := by
 intro l0 l1 k
 unfold laws_FnExactBlocksOf.f
 repeat' first
  | (with_reducible exact impl_BlocksOf.mono _ _ _)
  | (with_reducible exact laws_eqIntS.mono _ _ _)
  | (with_reducible exact laws_eqIntSS.mono _ _ _)
  | (with_reducible exact laws_eqJobS.mono _ _ _)
  | (with_reducible exact laws_heldIntSS.mono _ _ _)
  | (with_reducible exact laws_markIntS.mono _ _ _)
  | (with_reducible exact laws_markIntSS.mono _ _ _)
  | (with_reducible exact laws_markJobS.mono _ _ _)
  | (with_reducible exact laws_toIntS.mono _ _)
  | (with_reducible exact laws_toJobS.mono _ _)
  | (with_reducible exact spec_BlocksOf.mono _ _ _)
  | (with_reducible exact LeO.refl _)
  | (with_reducible exact LeO.none _)
  | (with_reducible refine LeO.ite ?_ ?_)
  | (with_reducible refine LeO.bind ?_ (fun _ => ?_))
theorem laws_FnExactBlocksOf.bS {α : Type} {d : Kd α} {e base : Nat} {w' w : World} {ok : Nat → Prop} {v : Value} {xs : List α} (h : Kd.S d e w base ok v xs) [k : Bs w' w] : Kd.S d e w' base ok v xs := by
 obtain ⟨k⟩ := k
 exact Kd.S_below h k.out
theorem laws_FnExactBlocksOf.sz {w' w : World} {m : Nat} (h : m ≤ w.heap.size) [k : Bs w' w] : m ≤ w'.heap.size := by
 obtain ⟨k⟩ := k
 exact Nat.le_trans h k.out.size
theorem laws_FnExactBlocksOf.cS {α : Type} {d : Kd α} {e base : Nat} {ok : Nat → Prop} {w w' : World} {A : Option Addr} {n c : Nat} {xs : List α} (h : Kd.S d e w base ok (.slice A n c) xs) [k : Bs w' w] : d.C w' A xs.length xs := (Kd.S_reads' (laws_FnExactBlocksOf.bS h)).2.2
theorem laws_FnExactBlocksOf.cR {α : Type} {d : Kd α} {e base : Nat} {ok : Nat → Prop} {w w' : World} {A : Option Addr} {n c : Nat} {xs : List α} (h : d.R e w base ok (.slice A n c) xs) [k : Bs w' w] : d.C w' A xs.length xs := (Kd.R_reads' (bR h)).2.2
theorem laws_FnExactBlocksOf.szS {w : World} {m : Nat} (p : Addr) (u : Value) (h : m ≤ w.heap.size) : m ≤ (w.setCell p u).heap.size := by simpa [World.setCell] using h
theorem laws_FnExactBlocksOf.bQ {α : Type} {d : Kd α} {e base : Nat} {w' w : World} {ok : Nat → Prop} {v : Value} {xs : List α} (h : d.Q e w base ok v xs) [k : Bs w' w] : d.Q e w' base ok v xs := by
 obtain ⟨k⟩ := k
 exact Kd.Q_below h k.out
theorem laws_FnExactBlocksOf.cQ {α : Type} {d : Kd α} {e base : Nat} {ok : Nat → Prop} {w w' : World} {A : Option Addr} {n c : Nat} {xs : List α} (h : d.Q e w base ok (.slice A n c) xs) [k : Bs w' w] : d.C w' A xs.length xs := (Kd.Q_reads' (laws_FnExactBlocksOf.bQ h)).2.2
theorem laws_FnExactBlocksOf.newR {α : Type} {d : Kd α} {e m base : Nat} {ok : Nat → Prop} {wc w' : World} {v : Value} {xs : List α} (h : d.R e w' wc.heap.size ok v xs) (hb : base ≤ wc.heap.size) (hm : m ≤ wc.heap.size) (hs : wc.heap.size ≤ w'.heap.size) : ∃ lo hi, (m ≤ lo ∧ lo ≤ hi) ∧ hi ≤ w'.heap.size ∧ d.R e w' base (fun k_ => lo ≤ k_ ∧ k_ < hi) v xs := ⟨wc.heap.size, w'.heap.size, ⟨hm, hs⟩, Nat.le_refl _, Kd.R_lower (Kd.R_mono (Kd.R_bound h) (fun _ hk => ⟨hk.2.1, hk.2.2.1⟩)) hb⟩
theorem laws_FnExactBlocksOf.newS {α : Type} {d : Kd α} {e m base : Nat} {ok : Nat → Prop} {wc w' : World} {v : Value} {xs : List α} (h : Kd.S d e w' wc.heap.size ok v xs) (hb : base ≤ wc.heap.size) (hm : m ≤ wc.heap.size) (hs : wc.heap.size ≤ w'.heap.size) : ∃ lo hi, (m ≤ lo ∧ lo ≤ hi) ∧ hi ≤ w'.heap.size ∧ Kd.S d e w' base (fun k_ => lo ≤ k_ ∧ k_ < hi) v xs := ⟨wc.heap.size, w'.heap.size, ⟨hm, hs⟩, Nat.le_refl _, Kd.S_lower (Kd.S_mono (Kd.S_bound h) (fun _ hk => ⟨hk.2.1, hk.2.2.1⟩)) hb⟩
theorem laws_FnExactBlocksOf.newQ {α : Type} {d : Kd α} {e m base : Nat} {ok : Nat → Prop} {wc w' : World} {v : Value} {xs : List α} (h : d.Q e w' wc.heap.size ok v xs) (hb : base ≤ wc.heap.size) (hm : m ≤ wc.heap.size) (hs : wc.heap.size ≤ w'.heap.size) : ∃ lo hi, (m ≤ lo ∧ lo ≤ hi) ∧ hi ≤ w'.heap.size ∧ d.Q e w' base (fun k_ => lo ≤ k_ ∧ k_ < hi) v xs := ⟨wc.heap.size, w'.heap.size, ⟨hm, hs⟩, Nat.le_refl _, Kd.Q_lower (Kd.Q_mono (Kd.Q_bound h) (fun _ hk => ⟨hk.2.1, hk.2.2.1⟩)) hb⟩
set_option maxHeartbeats 16000000 in
set_option maxRecDepth 100000 in
theorem laws_FnExactBlocksOf.calls (k : Nat) (A0 : Option Addr) (c0 : Nat) (l0 : List (S96)) (A1 : Option Addr) (c1 : Nat) (l1 : List Int) (r : Bool) (w : World) (hr0 : Kd.C k96 w A0 l0.length l0) (hc0 : l0.length ≤ c0) (hr1 : Kd.C (Kd.int .i64) w A1 l1.length l1) (hc1 : l1.length ≤ c1) (h : laws_FnExactBlocksOf.f k l0 l1 = some r) :
  Calls Try.prog 5 #[.slice A0 l0.length c0, .slice A1 l1.length c1] w fun e w' => e = .returned (.bool r) ∧ Below w.heap.size w w' := by
 have HR0 := Aside0.mk hr0
 clear hr0
 have HC0 := Aside0.mk hc0
 clear hc0
 have HR1 := Aside0.mk hr1
 clear hr1
 have HC1 := Aside0.mk hc1
 clear hc1
 have HB := Aside0.mk (Below.refl w.heap.size w)
 have HM := Aside0.mk (Nat.le_refl w.heap.size)
 have BD := Aside0.mk True.intro
 have H := h
 clear h
 unfold laws_FnExactBlocksOf.f at H
 by_cases c1 : (l1.length : Int) > 1048576
 ·rw [if_pos c1] at H
  have c1b0 : decide (1048576 < (l1.length : Int)) = true := decide_eq_true c1
  have c1b1 : decide (1048576 < l1.length) = true := decide_eq_true (by omega)
  clear c1
  obtain rfl := Option.some.inj H
  go_enter Try.func5, Try.ntmps5
  go_wp2
  go_ret
  exact ⟨by first | rfl | (simp [*]; done), bw HB.out⟩
 rw [if_neg c1] at H
 have c1b0 : decide (1048576 < (l1.length : Int)) = false := decide_eq_false c1
 have c1b1 : decide (1048576 < l1.length) = false := decide_eq_false (by omega)
 clear c1
 replace H := Option.bind_eq_some_iff.mp H
 obtain ⟨t1, A20, H⟩ := H
 have A2 := Aside0.mk A20
 clear A20
 have H' := Aside0.mk (show (if t1 < 0 then some true else ((laws_toJobS.f k l0).bind fun t2 => ((laws_toIntS.f k l1).bind fun t3 => ((spec_BlocksOf.f k t2 t3).bind fun bt4 => ((laws_toJobS.f k l0).bind fun t6 => ((laws_toIntS.f k l1).bind fun t7 => ((impl_BlocksOf.f k t6 t7).bind fun bt8 => ((laws_eqIntSS.f k bt8.1 bt4.1).bind fun t10 => (if t10 = true then (if bt8.2 = bt4.2 then ((laws_toJobS.f k l0).bind fun t11 => ((laws_eqJobS.f k t6 t11).bind fun t12 => (if t12 = true then ((laws_toIntS.f k l1).bind fun t13 => ((laws_eqIntS.f k t7 t13).bind fun t14 => (if t14 = true then ((laws_markJobS.f k t6 1).bind fun bt15 => ((laws_markIntS.f k t7 bt15.1).bind fun bt17 => (if bt17.1 < 0 then none else ((laws_eqIntSS.f k bt8.1 bt4.1).bind fun t19 => (if t19 = true then (if bt8.2 = bt4.2 then ((laws_markIntSS.f k bt8.1 1).bind fun bt20 => ((laws_heldIntSS.f k bt20.2 1).bind fun t22 => (if t22 < 0 then none else (if t22 = bt20.1 then ((laws_toJobS.f k l0).bind fun t23 => ((laws_toIntS.f k l1).bind fun t24 => ((impl_BlocksOf.f k t23 t24).bind fun bt25 => ((laws_eqIntSS.f k bt25.1 bt4.1).bind fun t27 => (if t27 = true then (if bt25.2 = bt4.2 then ((laws_heldIntSS.f k bt20.2 1).bind fun t28 => (if t28 < 0 then none else (if t28 = bt20.1 then some true else none))) else none) else none))))) else none)))) else none) else none))))) else none))) else none))) else none) else none))))))))) = some r from H)
 clear H
 have H := H'.out
 clear H'
 by_cases c3 : t1 < 0
 ·rw [if_pos c3] at H
  have c3b0 : decide (t1 < 0) = true := decide_eq_true c3
  clear c3
  obtain rfl := Option.some.inj H
  go_enter Try.func5, Try.ntmps5
  go_wp2_with (first | ((with_reducible refine gate_callee (f := 15) rfl ?_); refine goesL_ (some 22) rfl rfl Try.func15 (by kernel_rfl) rfl #[.slice A0 l0.length c0, .int .i64 1048576] rfl (by (try simp only [mA_]); first | done | rfl | (simp only [List.length_drop, List.length_take]; rfl)) ?_; (with_reducible refine (laws_szJobS.calls A0 c0 l0 1048576 t1 _ ?side1 ?side2 A2.out).mono ?_); (case side1 => exact bC HR0.out HB.out); (case side2 => exact HC0.out); rintro e w1 ⟨rfl, ⟨nd1, rfl⟩⟩; refine ⟨_, rfl, ?_⟩))
  go_ret
  exact ⟨by first | rfl | (simp [*]; done), bw HB.out⟩
 rw [if_neg c3] at H
 have c3b0 : decide (t1 < 0) = false := decide_eq_false c3
 clear c3
 replace H := Option.bind_eq_some_iff.mp H
 obtain ⟨t2, A40, H⟩ := H
 have A4 := Aside0.mk A40
 clear A40
 have H' := Aside0.mk (show ((laws_toIntS.f k l1).bind fun t3 => ((spec_BlocksOf.f k t2 t3).bind fun bt4 => ((laws_toJobS.f k l0).bind fun t6 => ((laws_toIntS.f k l1).bind fun t7 => ((impl_BlocksOf.f k t6 t7).bind fun bt8 => ((laws_eqIntSS.f k bt8.1 bt4.1).bind fun t10 => (if t10 = true then (if bt8.2 = bt4.2 then ((laws_toJobS.f k l0).bind fun t11 => ((laws_eqJobS.f k t6 t11).bind fun t12 => (if t12 = true then ((laws_toIntS.f k l1).bind fun t13 => ((laws_eqIntS.f k t7 t13).bind fun t14 => (if t14 = true then ((laws_markJobS.f k t6 1).bind fun bt15 => ((laws_markIntS.f k t7 bt15.1).bind fun bt17 => (if bt17.1 < 0 then none else ((laws_eqIntSS.f k bt8.1 bt4.1).bind fun t19 => (if t19 = true then (if bt8.2 = bt4.2 then ((laws_markIntSS.f k bt8.1 1).bind fun bt20 => ((laws_heldIntSS.f k bt20.2 1).bind fun t22 => (if t22 < 0 then none else (if t22 = bt20.1 then ((laws_toJobS.f k l0).bind fun t23 => ((laws_toIntS.f k l1).bind fun t24 => ((impl_BlocksOf.f k t23 t24).bind fun bt25 => ((laws_eqIntSS.f k bt25.1 bt4.1).bind fun t27 => (if t27 = true then (if bt25.2 = bt4.2 then ((laws_heldIntSS.f k bt20.2 1).bind fun t28 => (if t28 < 0 then none else (if t28 = bt20.1 then some true else none))) else none) else none))))) else none)))) else none) else none))))) else none))) else none))) else none) else none))))))) = some r from H)
 clear H
 have H := H'.out
 clear H'
 replace H := Option.bind_eq_some_iff.mp H
 obtain ⟨t3, A50, H⟩ := H
 have A5 := Aside0.mk A50
 clear A50
 have H' := Aside0.mk (show ((spec_BlocksOf.f k t2 t3).bind fun bt4 => ((laws_toJobS.f k l0).bind fun t6 => ((laws_toIntS.f k l1).bind fun t7 => ((impl_BlocksOf.f k t6 t7).bind fun bt8 => ((laws_eqIntSS.f k bt8.1 bt4.1).bind fun t10 => (if t10 = true then (if bt8.2 = bt4.2 then ((laws_toJobS.f k l0).bind fun t11 => ((laws_eqJobS.f k t6 t11).bind fun t12 => (if t12 = true then ((laws_toIntS.f k l1).bind fun t13 => ((laws_eqIntS.f k t7 t13).bind fun t14 => (if t14 = true then ((laws_markJobS.f k t6 1).bind fun bt15 => ((laws_markIntS.f k t7 bt15.1).bind fun bt17 => (if bt17.1 < 0 then none else ((laws_eqIntSS.f k bt8.1 bt4.1).bind fun t19 => (if t19 = true then (if bt8.2 = bt4.2 then ((laws_markIntSS.f k bt8.1 1).bind fun bt20 => ((laws_heldIntSS.f k bt20.2 1).bind fun t22 => (if t22 < 0 then none else (if t22 = bt20.1 then ((laws_toJobS.f k l0).bind fun t23 => ((laws_toIntS.f k l1).bind fun t24 => ((impl_BlocksOf.f k t23 t24).bind fun bt25 => ((laws_eqIntSS.f k bt25.1 bt4.1).bind fun t27 => (if t27 = true then (if bt25.2 = bt4.2 then ((laws_heldIntSS.f k bt20.2 1).bind fun t28 => (if t28 < 0 then none else (if t28 = bt20.1 then some true else none))) else none) else none))))) else none)))) else none) else none))))) else none))) else none))) else none) else none)))))) = some r from H)
 clear H
 have H := H'.out
 clear H'
 replace H := Option.bind_eq_some_iff.mp H
 obtain ⟨⟨t4, t5⟩, A60, H⟩ := H
 have A6 := Aside0.mk A60
 clear A60
 have H' := Aside0.mk (show ((laws_toJobS.f k l0).bind fun t6 => ((laws_toIntS.f k l1).bind fun t7 => ((impl_BlocksOf.f k t6 t7).bind fun bt8 => ((laws_eqIntSS.f k bt8.1 t4).bind fun t10 => (if t10 = true then (if bt8.2 = t5 then ((laws_toJobS.f k l0).bind fun t11 => ((laws_eqJobS.f k t6 t11).bind fun t12 => (if t12 = true then ((laws_toIntS.f k l1).bind fun t13 => ((laws_eqIntS.f k t7 t13).bind fun t14 => (if t14 = true then ((laws_markJobS.f k t6 1).bind fun bt15 => ((laws_markIntS.f k t7 bt15.1).bind fun bt17 => (if bt17.1 < 0 then none else ((laws_eqIntSS.f k bt8.1 t4).bind fun t19 => (if t19 = true then (if bt8.2 = t5 then ((laws_markIntSS.f k bt8.1 1).bind fun bt20 => ((laws_heldIntSS.f k bt20.2 1).bind fun t22 => (if t22 < 0 then none else (if t22 = bt20.1 then ((laws_toJobS.f k l0).bind fun t23 => ((laws_toIntS.f k l1).bind fun t24 => ((impl_BlocksOf.f k t23 t24).bind fun bt25 => ((laws_eqIntSS.f k bt25.1 t4).bind fun t27 => (if t27 = true then (if bt25.2 = t5 then ((laws_heldIntSS.f k bt20.2 1).bind fun t28 => (if t28 < 0 then none else (if t28 = bt20.1 then some true else none))) else none) else none))))) else none)))) else none) else none))))) else none))) else none))) else none) else none))))) = some r from H)
 clear H
 have H := H'.out
 clear H'
 replace H := Option.bind_eq_some_iff.mp H
 obtain ⟨t6, A70, H⟩ := H
 have A7 := Aside0.mk A70
 clear A70
 have H' := Aside0.mk (show ((laws_toIntS.f k l1).bind fun t7 => ((impl_BlocksOf.f k t6 t7).bind fun bt8 => ((laws_eqIntSS.f k bt8.1 t4).bind fun t10 => (if t10 = true then (if bt8.2 = t5 then ((laws_toJobS.f k l0).bind fun t11 => ((laws_eqJobS.f k t6 t11).bind fun t12 => (if t12 = true then ((laws_toIntS.f k l1).bind fun t13 => ((laws_eqIntS.f k t7 t13).bind fun t14 => (if t14 = true then ((laws_markJobS.f k t6 1).bind fun bt15 => ((laws_markIntS.f k t7 bt15.1).bind fun bt17 => (if bt17.1 < 0 then none else ((laws_eqIntSS.f k bt8.1 t4).bind fun t19 => (if t19 = true then (if bt8.2 = t5 then ((laws_markIntSS.f k bt8.1 1).bind fun bt20 => ((laws_heldIntSS.f k bt20.2 1).bind fun t22 => (if t22 < 0 then none else (if t22 = bt20.1 then ((laws_toJobS.f k l0).bind fun t23 => ((laws_toIntS.f k l1).bind fun t24 => ((impl_BlocksOf.f k t23 t24).bind fun bt25 => ((laws_eqIntSS.f k bt25.1 t4).bind fun t27 => (if t27 = true then (if bt25.2 = t5 then ((laws_heldIntSS.f k bt20.2 1).bind fun t28 => (if t28 < 0 then none else (if t28 = bt20.1 then some true else none))) else none) else none))))) else none)))) else none) else none))))) else none))) else none))) else none) else none)))) = some r from H)
 clear H
 have H := H'.out
 clear H'
 replace H := Option.bind_eq_some_iff.mp H
 obtain ⟨t7, A80, H⟩ := H
 have A8 := Aside0.mk A80
 clear A80
 have H' := Aside0.mk (show ((impl_BlocksOf.f k t6 t7).bind fun bt8 => ((laws_eqIntSS.f k bt8.1 t4).bind fun t10 => (if t10 = true then (if bt8.2 = t5 then ((laws_toJobS.f k l0).bind fun t11 => ((laws_eqJobS.f k t6 t11).bind fun t12 => (if t12 = true then ((laws_toIntS.f k l1).bind fun t13 => ((laws_eqIntS.f k t7 t13).bind fun t14 => (if t14 = true then ((laws_markJobS.f k t6 1).bind fun bt15 => ((laws_markIntS.f k t7 bt15.1).bind fun bt17 => (if bt17.1 < 0 then none else ((laws_eqIntSS.f k bt8.1 t4).bind fun t19 => (if t19 = true then (if bt8.2 = t5 then ((laws_markIntSS.f k bt8.1 1).bind fun bt20 => ((laws_heldIntSS.f k bt20.2 1).bind fun t22 => (if t22 < 0 then none else (if t22 = bt20.1 then ((laws_toJobS.f k l0).bind fun t23 => ((laws_toIntS.f k l1).bind fun t24 => ((impl_BlocksOf.f k t23 t24).bind fun bt25 => ((laws_eqIntSS.f k bt25.1 t4).bind fun t27 => (if t27 = true then (if bt25.2 = t5 then ((laws_heldIntSS.f k bt20.2 1).bind fun t28 => (if t28 < 0 then none else (if t28 = bt20.1 then some true else none))) else none) else none))))) else none)))) else none) else none))))) else none))) else none))) else none) else none))) = some r from H)
 clear H
 have H := H'.out
 clear H'
 replace H := Option.bind_eq_some_iff.mp H
 obtain ⟨⟨t8, t9⟩, A90, H⟩ := H
 have A9 := Aside0.mk A90
 clear A90
 have H' := Aside0.mk (show ((laws_eqIntSS.f k t8 t4).bind fun t10 => (if t10 = true then (if t9 = t5 then ((laws_toJobS.f k l0).bind fun t11 => ((laws_eqJobS.f k t6 t11).bind fun t12 => (if t12 = true then ((laws_toIntS.f k l1).bind fun t13 => ((laws_eqIntS.f k t7 t13).bind fun t14 => (if t14 = true then ((laws_markJobS.f k t6 1).bind fun bt15 => ((laws_markIntS.f k t7 bt15.1).bind fun bt17 => (if bt17.1 < 0 then none else ((laws_eqIntSS.f k t8 t4).bind fun t19 => (if t19 = true then (if t9 = t5 then ((laws_markIntSS.f k t8 1).bind fun bt20 => ((laws_heldIntSS.f k bt20.2 1).bind fun t22 => (if t22 < 0 then none else (if t22 = bt20.1 then ((laws_toJobS.f k l0).bind fun t23 => ((laws_toIntS.f k l1).bind fun t24 => ((impl_BlocksOf.f k t23 t24).bind fun bt25 => ((laws_eqIntSS.f k bt25.1 t4).bind fun t27 => (if t27 = true then (if bt25.2 = t5 then ((laws_heldIntSS.f k bt20.2 1).bind fun t28 => (if t28 < 0 then none else (if t28 = bt20.1 then some true else none))) else none) else none))))) else none)))) else none) else none))))) else none))) else none))) else none) else none)) = some r from H)
 clear H
 have H := H'.out
 clear H'
 replace H := Option.bind_eq_some_iff.mp H
 obtain ⟨t10, A100, H⟩ := H
 have A10 := Aside0.mk A100
 clear A100
 have H' := Aside0.mk (show (if t10 = true then (if t9 = t5 then ((laws_toJobS.f k l0).bind fun t11 => ((laws_eqJobS.f k t6 t11).bind fun t12 => (if t12 = true then ((laws_toIntS.f k l1).bind fun t13 => ((laws_eqIntS.f k t7 t13).bind fun t14 => (if t14 = true then ((laws_markJobS.f k t6 1).bind fun bt15 => ((laws_markIntS.f k t7 bt15.1).bind fun bt17 => (if bt17.1 < 0 then none else ((laws_eqIntSS.f k t8 t4).bind fun t19 => (if t19 = true then (if t9 = t5 then ((laws_markIntSS.f k t8 1).bind fun bt20 => ((laws_heldIntSS.f k bt20.2 1).bind fun t22 => (if t22 < 0 then none else (if t22 = bt20.1 then ((laws_toJobS.f k l0).bind fun t23 => ((laws_toIntS.f k l1).bind fun t24 => ((impl_BlocksOf.f k t23 t24).bind fun bt25 => ((laws_eqIntSS.f k bt25.1 t4).bind fun t27 => (if t27 = true then (if bt25.2 = t5 then ((laws_heldIntSS.f k bt20.2 1).bind fun t28 => (if t28 < 0 then none else (if t28 = bt20.1 then some true else none))) else none) else none))))) else none)))) else none) else none))))) else none))) else none))) else none) else none) = some r from H)
 clear H
 have H := H'.out
 clear H'
 by_cases c11 : t10 = true
 case neg =>
  rw [if_neg c11] at H
  exact absurd H (by simp)
 rw [if_pos c11] at H
 subst c11
 by_cases c12 : t9 = t5
 case neg =>
  rw [if_neg c12] at H
  exact absurd H (by simp)
 rw [if_pos c12] at H
 have c12b0 : (t9 == t5) = true := beq_iff_eq.mpr c12
 have c12b1 : (t9 != t5) = false := bne_eq_false_iff_eq.mpr c12
 clear c12
 replace H := Option.bind_eq_some_iff.mp H
 obtain ⟨t11, A130, H⟩ := H
 have A13 := Aside0.mk A130
 clear A130
 have H' := Aside0.mk (show ((laws_eqJobS.f k t6 t11).bind fun t12 => (if t12 = true then ((laws_toIntS.f k l1).bind fun t13 => ((laws_eqIntS.f k t7 t13).bind fun t14 => (if t14 = true then ((laws_markJobS.f k t6 1).bind fun bt15 => ((laws_markIntS.f k t7 bt15.1).bind fun bt17 => (if bt17.1 < 0 then none else ((laws_eqIntSS.f k t8 t4).bind fun t19 => (if t19 = true then (if t9 = t5 then ((laws_markIntSS.f k t8 1).bind fun bt20 => ((laws_heldIntSS.f k bt20.2 1).bind fun t22 => (if t22 < 0 then none else (if t22 = bt20.1 then ((laws_toJobS.f k l0).bind fun t23 => ((laws_toIntS.f k l1).bind fun t24 => ((impl_BlocksOf.f k t23 t24).bind fun bt25 => ((laws_eqIntSS.f k bt25.1 t4).bind fun t27 => (if t27 = true then (if bt25.2 = t5 then ((laws_heldIntSS.f k bt20.2 1).bind fun t28 => (if t28 < 0 then none else (if t28 = bt20.1 then some true else none))) else none) else none))))) else none)))) else none) else none))))) else none))) else none)) = some r from H)
 clear H
 have H := H'.out
 clear H'
 replace H := Option.bind_eq_some_iff.mp H
 obtain ⟨t12, A140, H⟩ := H
 have A14 := Aside0.mk A140
 clear A140
 have H' := Aside0.mk (show (if t12 = true then ((laws_toIntS.f k l1).bind fun t13 => ((laws_eqIntS.f k t7 t13).bind fun t14 => (if t14 = true then ((laws_markJobS.f k t6 1).bind fun bt15 => ((laws_markIntS.f k t7 bt15.1).bind fun bt17 => (if bt17.1 < 0 then none else ((laws_eqIntSS.f k t8 t4).bind fun t19 => (if t19 = true then (if t9 = t5 then ((laws_markIntSS.f k t8 1).bind fun bt20 => ((laws_heldIntSS.f k bt20.2 1).bind fun t22 => (if t22 < 0 then none else (if t22 = bt20.1 then ((laws_toJobS.f k l0).bind fun t23 => ((laws_toIntS.f k l1).bind fun t24 => ((impl_BlocksOf.f k t23 t24).bind fun bt25 => ((laws_eqIntSS.f k bt25.1 t4).bind fun t27 => (if t27 = true then (if bt25.2 = t5 then ((laws_heldIntSS.f k bt20.2 1).bind fun t28 => (if t28 < 0 then none else (if t28 = bt20.1 then some true else none))) else none) else none))))) else none)))) else none) else none))))) else none))) else none) = some r from H)
 clear H
 have H := H'.out
 clear H'
 by_cases c15 : t12 = true
 case neg =>
  rw [if_neg c15] at H
  exact absurd H (by simp)
 rw [if_pos c15] at H
 subst c15
 replace H := Option.bind_eq_some_iff.mp H
 obtain ⟨t13, A160, H⟩ := H
 have A16 := Aside0.mk A160
 clear A160
 have H' := Aside0.mk (show ((laws_eqIntS.f k t7 t13).bind fun t14 => (if t14 = true then ((laws_markJobS.f k t6 1).bind fun bt15 => ((laws_markIntS.f k t7 bt15.1).bind fun bt17 => (if bt17.1 < 0 then none else ((laws_eqIntSS.f k t8 t4).bind fun t19 => (if t19 = true then (if t9 = t5 then ((laws_markIntSS.f k t8 1).bind fun bt20 => ((laws_heldIntSS.f k bt20.2 1).bind fun t22 => (if t22 < 0 then none else (if t22 = bt20.1 then ((laws_toJobS.f k l0).bind fun t23 => ((laws_toIntS.f k l1).bind fun t24 => ((impl_BlocksOf.f k t23 t24).bind fun bt25 => ((laws_eqIntSS.f k bt25.1 t4).bind fun t27 => (if t27 = true then (if bt25.2 = t5 then ((laws_heldIntSS.f k bt20.2 1).bind fun t28 => (if t28 < 0 then none else (if t28 = bt20.1 then some true else none))) else none) else none))))) else none)))) else none) else none))))) else none)) = some r from H)
 clear H
 have H := H'.out
 clear H'
 replace H := Option.bind_eq_some_iff.mp H
 obtain ⟨t14, A170, H⟩ := H
 have A17 := Aside0.mk A170
 clear A170
 have H' := Aside0.mk (show (if t14 = true then ((laws_markJobS.f k t6 1).bind fun bt15 => ((laws_markIntS.f k t7 bt15.1).bind fun bt17 => (if bt17.1 < 0 then none else ((laws_eqIntSS.f k t8 t4).bind fun t19 => (if t19 = true then (if t9 = t5 then ((laws_markIntSS.f k t8 1).bind fun bt20 => ((laws_heldIntSS.f k bt20.2 1).bind fun t22 => (if t22 < 0 then none else (if t22 = bt20.1 then ((laws_toJobS.f k l0).bind fun t23 => ((laws_toIntS.f k l1).bind fun t24 => ((impl_BlocksOf.f k t23 t24).bind fun bt25 => ((laws_eqIntSS.f k bt25.1 t4).bind fun t27 => (if t27 = true then (if bt25.2 = t5 then ((laws_heldIntSS.f k bt20.2 1).bind fun t28 => (if t28 < 0 then none else (if t28 = bt20.1 then some true else none))) else none) else none))))) else none)))) else none) else none))))) else none) = some r from H)
 clear H
 have H := H'.out
 clear H'
 by_cases c18 : t14 = true
 case neg =>
  rw [if_neg c18] at H
  exact absurd H (by simp)
 rw [if_pos c18] at H
 subst c18
 replace H := Option.bind_eq_some_iff.mp H
 obtain ⟨⟨t15, t16⟩, A190, H⟩ := H
 have A19 := Aside0.mk A190
 clear A190
 have H' := Aside0.mk (show ((laws_markIntS.f k t7 t15).bind fun bt17 => (if bt17.1 < 0 then none else ((laws_eqIntSS.f k t8 t4).bind fun t19 => (if t19 = true then (if t9 = t5 then ((laws_markIntSS.f k t8 1).bind fun bt20 => ((laws_heldIntSS.f k bt20.2 1).bind fun t22 => (if t22 < 0 then none else (if t22 = bt20.1 then ((laws_toJobS.f k l0).bind fun t23 => ((laws_toIntS.f k l1).bind fun t24 => ((impl_BlocksOf.f k t23 t24).bind fun bt25 => ((laws_eqIntSS.f k bt25.1 t4).bind fun t27 => (if t27 = true then (if bt25.2 = t5 then ((laws_heldIntSS.f k bt20.2 1).bind fun t28 => (if t28 < 0 then none else (if t28 = bt20.1 then some true else none))) else none) else none))))) else none)))) else none) else none)))) = some r from H)
 clear H
 have H := H'.out
 clear H'
 replace H := Option.bind_eq_some_iff.mp H
 obtain ⟨⟨t17, t18⟩, A200, H⟩ := H
 have A20 := Aside0.mk A200
 clear A200
 have H' := Aside0.mk (show (if t17 < 0 then none else ((laws_eqIntSS.f k t8 t4).bind fun t19 => (if t19 = true then (if t9 = t5 then ((laws_markIntSS.f k t8 1).bind fun bt20 => ((laws_heldIntSS.f k bt20.2 1).bind fun t22 => (if t22 < 0 then none else (if t22 = bt20.1 then ((laws_toJobS.f k l0).bind fun t23 => ((laws_toIntS.f k l1).bind fun t24 => ((impl_BlocksOf.f k t23 t24).bind fun bt25 => ((laws_eqIntSS.f k bt25.1 t4).bind fun t27 => (if t27 = true then (if bt25.2 = t5 then ((laws_heldIntSS.f k bt20.2 1).bind fun t28 => (if t28 < 0 then none else (if t28 = bt20.1 then some true else none))) else none) else none))))) else none)))) else none) else none))) = some r from H)
 clear H
 have H := H'.out
 clear H'
 by_cases c21 : t17 < 0
 ·rw [if_pos c21] at H
  exact absurd H (by simp)
 rw [if_neg c21] at H
 have c21b0 : decide (t17 < 0) = false := decide_eq_false c21
 clear c21
 replace H := Option.bind_eq_some_iff.mp H
 obtain ⟨t19, A220, H⟩ := H
 have A22 := Aside0.mk A220
 clear A220
 have H' := Aside0.mk (show (if t19 = true then (if t9 = t5 then ((laws_markIntSS.f k t8 1).bind fun bt20 => ((laws_heldIntSS.f k bt20.2 1).bind fun t22 => (if t22 < 0 then none else (if t22 = bt20.1 then ((laws_toJobS.f k l0).bind fun t23 => ((laws_toIntS.f k l1).bind fun t24 => ((impl_BlocksOf.f k t23 t24).bind fun bt25 => ((laws_eqIntSS.f k bt25.1 t4).bind fun t27 => (if t27 = true then (if bt25.2 = t5 then ((laws_heldIntSS.f k bt20.2 1).bind fun t28 => (if t28 < 0 then none else (if t28 = bt20.1 then some true else none))) else none) else none))))) else none)))) else none) else none) = some r from H)
 clear H
 have H := H'.out
 clear H'
 by_cases c23 : t19 = true
 case neg =>
  rw [if_neg c23] at H
  exact absurd H (by simp)
 rw [if_pos c23] at H
 subst c23
 by_cases c24 : t9 = t5
 case neg =>
  rw [if_neg c24] at H
  exact absurd H (by simp)
 rw [if_pos c24] at H
 have c24b0 : (t9 == t5) = true := beq_iff_eq.mpr c24
 have c24b1 : (t9 != t5) = false := bne_eq_false_iff_eq.mpr c24
 clear c24
 replace H := Option.bind_eq_some_iff.mp H
 obtain ⟨⟨t20, t21⟩, A250, H⟩ := H
 have A25 := Aside0.mk A250
 clear A250
 have H' := Aside0.mk (show ((laws_heldIntSS.f k t21 1).bind fun t22 => (if t22 < 0 then none else (if t22 = t20 then ((laws_toJobS.f k l0).bind fun t23 => ((laws_toIntS.f k l1).bind fun t24 => ((impl_BlocksOf.f k t23 t24).bind fun bt25 => ((laws_eqIntSS.f k bt25.1 t4).bind fun t27 => (if t27 = true then (if bt25.2 = t5 then ((laws_heldIntSS.f k t21 1).bind fun t28 => (if t28 < 0 then none else (if t28 = t20 then some true else none))) else none) else none))))) else none))) = some r from H)
 clear H
 have H := H'.out
 clear H'
 replace H := Option.bind_eq_some_iff.mp H
 obtain ⟨t22, A260, H⟩ := H
 have A26 := Aside0.mk A260
 clear A260
 have H' := Aside0.mk (show (if t22 < 0 then none else (if t22 = t20 then ((laws_toJobS.f k l0).bind fun t23 => ((laws_toIntS.f k l1).bind fun t24 => ((impl_BlocksOf.f k t23 t24).bind fun bt25 => ((laws_eqIntSS.f k bt25.1 t4).bind fun t27 => (if t27 = true then (if bt25.2 = t5 then ((laws_heldIntSS.f k t21 1).bind fun t28 => (if t28 < 0 then none else (if t28 = t20 then some true else none))) else none) else none))))) else none)) = some r from H)
 clear H
 have H := H'.out
 clear H'
 by_cases c27 : t22 < 0
 ·rw [if_pos c27] at H
  exact absurd H (by simp)
 rw [if_neg c27] at H
 have c27b0 : decide (t22 < 0) = false := decide_eq_false c27
 clear c27
 by_cases c28 : t22 = t20
 case neg =>
  rw [if_neg c28] at H
  exact absurd H (by simp)
 rw [if_pos c28] at H
 have c28b0 : (t22 == t20) = true := beq_iff_eq.mpr c28
 have c28b1 : (t22 != t20) = false := bne_eq_false_iff_eq.mpr c28
 clear c28
 replace H := Option.bind_eq_some_iff.mp H
 obtain ⟨t23, A290, H⟩ := H
 have A29 := Aside0.mk A290
 clear A290
 have H' := Aside0.mk (show ((laws_toIntS.f k l1).bind fun t24 => ((impl_BlocksOf.f k t23 t24).bind fun bt25 => ((laws_eqIntSS.f k bt25.1 t4).bind fun t27 => (if t27 = true then (if bt25.2 = t5 then ((laws_heldIntSS.f k t21 1).bind fun t28 => (if t28 < 0 then none else (if t28 = t20 then some true else none))) else none) else none)))) = some r from H)
 clear H
 have H := H'.out
 clear H'
 replace H := Option.bind_eq_some_iff.mp H
 obtain ⟨t24, A300, H⟩ := H
 have A30 := Aside0.mk A300
 clear A300
 have H' := Aside0.mk (show ((impl_BlocksOf.f k t23 t24).bind fun bt25 => ((laws_eqIntSS.f k bt25.1 t4).bind fun t27 => (if t27 = true then (if bt25.2 = t5 then ((laws_heldIntSS.f k t21 1).bind fun t28 => (if t28 < 0 then none else (if t28 = t20 then some true else none))) else none) else none))) = some r from H)
 clear H
 have H := H'.out
 clear H'
 replace H := Option.bind_eq_some_iff.mp H
 obtain ⟨⟨t25, t26⟩, A310, H⟩ := H
 have A31 := Aside0.mk A310
 clear A310
 have H' := Aside0.mk (show ((laws_eqIntSS.f k t25 t4).bind fun t27 => (if t27 = true then (if t26 = t5 then ((laws_heldIntSS.f k t21 1).bind fun t28 => (if t28 < 0 then none else (if t28 = t20 then some true else none))) else none) else none)) = some r from H)
 clear H
 have H := H'.out
 clear H'
 replace H := Option.bind_eq_some_iff.mp H
 obtain ⟨t27, A320, H⟩ := H
 have A32 := Aside0.mk A320
 clear A320
 have H' := Aside0.mk (show (if t27 = true then (if t26 = t5 then ((laws_heldIntSS.f k t21 1).bind fun t28 => (if t28 < 0 then none else (if t28 = t20 then some true else none))) else none) else none) = some r from H)
 clear H
 have H := H'.out
 clear H'
 by_cases c33 : t27 = true
 case neg =>
  rw [if_neg c33] at H
  exact absurd H (by simp)
 rw [if_pos c33] at H
 subst c33
 by_cases c34 : t26 = t5
 case neg =>
  rw [if_neg c34] at H
  exact absurd H (by simp)
 rw [if_pos c34] at H
 have c34b0 : (t26 == t5) = true := beq_iff_eq.mpr c34
 have c34b1 : (t26 != t5) = false := bne_eq_false_iff_eq.mpr c34
 clear c34
 replace H := Option.bind_eq_some_iff.mp H
 obtain ⟨t28, A350, H⟩ := H
 have A35 := Aside0.mk A350
 clear A350
 have H' := Aside0.mk (show (if t28 < 0 then none else (if t28 = t20 then some true else none)) = some r from H)
 clear H
 have H := H'.out
 clear H'
 by_cases c36 : t28 < 0
 ·rw [if_pos c36] at H
  exact absurd H (by simp)
 rw [if_neg c36] at H
 have c36b0 : decide (t28 < 0) = false := decide_eq_false c36
 clear c36
 by_cases c37 : t28 = t20
 case neg =>
  rw [if_neg c37] at H
  exact absurd H (by simp)
 rw [if_pos c37] at H
 have c37b0 : (t28 == t20) = true := beq_iff_eq.mpr c37
 have c37b1 : (t28 != t20) = false := bne_eq_false_iff_eq.mpr c37
 clear c37
 obtain rfl := Option.some.inj H
 clear H
 go_enter Try.func5, Try.ntmps5
 go_wp2_with (first | ((with_reducible refine gate_callee (f := 15) rfl ?_); refine goesL_ (some 22) rfl rfl Try.func15 (by kernel_rfl) rfl #[.slice A0 l0.length c0, .int .i64 1048576] rfl (by (try simp only [mA_]); first | done | rfl | (simp only [List.length_drop, List.length_take]; rfl)) ?_; (with_reducible refine (laws_szJobS.calls A0 c0 l0 1048576 t1 _ ?side1 ?side2 A2.out).mono ?_); (case side1 => exact bC HR0.out HB.out); (case side2 => exact HC0.out); rintro e w1 ⟨rfl, ⟨nd1, rfl⟩⟩; refine ⟨_, rfl, ?_⟩) | ((with_reducible refine gate_callee (f := 17) rfl ?_); refine goesL_ (some 27) rfl rfl Try.func17 (by kernel_rfl) rfl #[.slice A0 l0.length c0] rfl (by (try simp only [mA_]); first | done | rfl | (simp only [List.length_drop, List.length_take]; rfl)) ?_; (with_reducible refine (laws_toJobS.calls k A0 c0 l0 t2 _ ?side1 ?side2 A4.out).mono ?_); (case side1 => exact bC HR0.out HB.out); (case side2 => exact HC0.out); rintro e w2 ⟨v2_0, rfl, ho0, hb⟩; refine ⟨_, rfl, ?_⟩; have hbb := Aside0.mk hb; clear hb; obtain ⟨lo0, hi0, bd, hm, ho⟩ := laws_FnExactBlocksOf.newR (base := w.heap.size) ho0 (below_size (bw HB.out)) (laws_FnExactBlocksOf.sz HM.out) hbb.out.size; have HO0 := Aside0.mk ho; replace HM := Aside0.mk hm; have BD2 := Aside0.mk (And.intro bd BD.out); clear BD; have BD := BD2; clear BD2; clear ho ho0 bd hm; obtain ⟨Ao0, co0, eo0⟩ := Kd.R_slice HO0.out; subst eo0; have n0_ := Aside0.mk (below_step (bw HB.out) hbb.out); replace HB := n0_; clear n0_ hbb) | ((with_reducible refine gate_callee (f := 18) rfl ?_); refine goesL_ (some 29) rfl rfl Try.func18 (by kernel_rfl) rfl #[.slice A1 l1.length c1] rfl (by (try simp only [mA_]); first | done | rfl | (simp only [List.length_drop, List.length_take]; rfl)) ?_; (with_reducible refine (laws_toIntS.calls k A1 c1 l1 t3 _ ?side1 ?side2 A5.out).mono ?_); (case side1 => exact bC HR1.out HB.out); (case side2 => exact HC1.out); rintro e w3 ⟨v3_0, rfl, ho0, hb⟩; refine ⟨_, rfl, ?_⟩; have hbb := Aside0.mk hb; clear hb; have n0 := Aside0.mk (Kd.R_below (bR HO0.out) hbb.out); replace HO0 := n0; clear n0; obtain ⟨lo1, hi1, bd, hm, ho⟩ := laws_FnExactBlocksOf.newR (base := w.heap.size) ho0 (below_size (bw HB.out)) (laws_FnExactBlocksOf.sz HM.out) hbb.out.size; have HO1 := Aside0.mk ho; replace HM := Aside0.mk hm; have BD2 := Aside0.mk (And.intro bd BD.out); clear BD; have BD := BD2; clear BD2; clear ho ho0 bd hm; obtain ⟨Ao1, co1, eo1⟩ := Kd.R_slice HO1.out; subst eo1; have n0_ := Aside0.mk (below_step (bw HB.out) hbb.out); replace HB := n0_; clear n0_ hbb) | ((with_reducible refine gate_callee (f := 24) rfl ?_); refine goesL_ (some 30) rfl rfl Try.func24 (by kernel_rfl) rfl #[.slice Ao0 t2.length co0, .slice Ao1 t3.length co1] rfl (by (try simp only [mA_]); first | done | rfl | (simp only [List.length_drop, List.length_take]; rfl)) ?_; (with_reducible refine (spec_BlocksOf.calls k _ _ t2 _ _ t3 t4 t5 _ ?side1 ?side2 ?side3 ?side4 A6.out).mono ?_); (case side1 => exact laws_FnExactBlocksOf.cR HO0.out); (case side2 => exact (Kd.R_reads' HO0.out).2.1); (case side3 => exact laws_FnExactBlocksOf.cR HO1.out); (case side4 => exact (Kd.R_reads' HO1.out).2.1); rintro e w4 ⟨v4_0, rfl, ho0, hb⟩; refine ⟨_, rfl, ?_⟩; have hbb := Aside0.mk hb; clear hb; obtain ⟨lo2, hi2, bd, hm, ho⟩ := laws_FnExactBlocksOf.newS (base := w.heap.size) ho0 (below_size (bw HB.out)) (laws_FnExactBlocksOf.sz HM.out) hbb.out.size; have HO2 := Aside0.mk ho; replace HM := Aside0.mk hm; have BD2 := Aside0.mk (And.intro bd BD.out); clear BD; have BD := BD2; clear BD2; clear ho ho0 bd hm; obtain ⟨Ao2, co2, eo2⟩ := Kd.S_slice HO2.out; subst eo2; have n0_ := Aside0.mk (below_step (bw HB.out) hbb.out); replace HB := n0_; clear n0_ hbb) | ((with_reducible refine gate_callee (f := 17) rfl ?_); refine goesL_ (some 34) rfl rfl Try.func17 (by kernel_rfl) rfl #[.slice A0 l0.length c0] rfl (by (try simp only [mA_]); first | done | rfl | (simp only [List.length_drop, List.length_take]; rfl)) ?_; (with_reducible refine (laws_toJobS.calls k A0 c0 l0 t6 _ ?side1 ?side2 A7.out).mono ?_); (case side1 => exact bC HR0.out HB.out); (case side2 => exact HC0.out); rintro e w5 ⟨v5_0, rfl, ho0, hb⟩; refine ⟨_, rfl, ?_⟩; have hbb := Aside0.mk hb; clear hb; have n2 := Aside0.mk (Kd.S_below (laws_FnExactBlocksOf.bS HO2.out) hbb.out); replace HO2 := n2; clear n2; obtain ⟨lo3, hi3, bd, hm, ho⟩ := laws_FnExactBlocksOf.newR (base := w.heap.size) ho0 (below_size (bw HB.out)) (laws_FnExactBlocksOf.sz HM.out) hbb.out.size; have HO3 := Aside0.mk ho; replace HM := Aside0.mk hm; have BD2 := Aside0.mk (And.intro bd BD.out); clear BD; have BD := BD2; clear BD2; clear ho ho0 bd hm; obtain ⟨Ao3, co3, eo3⟩ := Kd.R_slice HO3.out; subst eo3; have n0_ := Aside0.mk (below_step (bw HB.out) hbb.out); replace HB := n0_; clear n0_ hbb) | ((with_reducible refine gate_callee (f := 18) rfl ?_); refine goesL_ (some 36) rfl rfl Try.func18 (by kernel_rfl) rfl #[.slice A1 l1.length c1] rfl (by (try simp only [mA_]); first | done | rfl | (simp only [List.length_drop, List.length_take]; rfl)) ?_; (with_reducible refine (laws_toIntS.calls k A1 c1 l1 t7 _ ?side1 ?side2 A8.out).mono ?_); (case side1 => exact bC HR1.out HB.out); (case side2 => exact HC1.out); rintro e w6 ⟨v6_0, rfl, ho0, hb⟩; refine ⟨_, rfl, ?_⟩; have hbb := Aside0.mk hb; clear hb; have n2 := Aside0.mk (Kd.S_below (laws_FnExactBlocksOf.bS HO2.out) hbb.out); replace HO2 := n2; clear n2; have n3 := Aside0.mk (Kd.R_below (bR HO3.out) hbb.out); replace HO3 := n3; clear n3; obtain ⟨lo4, hi4, bd, hm, ho⟩ := laws_FnExactBlocksOf.newR (base := w.heap.size) ho0 (below_size (bw HB.out)) (laws_FnExactBlocksOf.sz HM.out) hbb.out.size; have HO4 := Aside0.mk ho; replace HM := Aside0.mk hm; have BD2 := Aside0.mk (And.intro bd BD.out); clear BD; have BD := BD2; clear BD2; clear ho ho0 bd hm; obtain ⟨Ao4, co4, eo4⟩ := Kd.R_slice HO4.out; subst eo4; have n0_ := Aside0.mk (below_step (bw HB.out) hbb.out); replace HB := n0_; clear n0_ hbb) | ((with_reducible refine gate_callee (f := 25) rfl ?_); refine goesL_ (some 40) rfl rfl Try.func25 (by kernel_rfl) rfl #[.slice Ao3 t6.length co3, .slice Ao4 t7.length co4] rfl (by (try simp only [mA_]); first | done | rfl | (simp only [List.length_drop, List.length_take]; rfl)) ?_; (with_reducible refine (impl_BlocksOf.calls k _ _ t6 _ _ t7 t8 t9 _ ?side1 ?side2 ?side3 ?side4 A9.out).mono ?_); (case side1 => exact laws_FnExactBlocksOf.cR HO3.out); (case side2 => exact (Kd.R_reads' HO3.out).2.1); (case side3 => exact laws_FnExactBlocksOf.cR HO4.out); (case side4 => exact (Kd.R_reads' HO4.out).2.1); rintro e w7 ⟨v7_0, rfl, ho0, hb⟩; refine ⟨_, rfl, ?_⟩; have hbb := Aside0.mk hb; clear hb; have n2 := Aside0.mk (Kd.S_below (laws_FnExactBlocksOf.bS HO2.out) hbb.out); replace HO2 := n2; clear n2; have n3 := Aside0.mk (Kd.R_below (bR HO3.out) hbb.out); replace HO3 := n3; clear n3; have n4 := Aside0.mk (Kd.R_below (bR HO4.out) hbb.out); replace HO4 := n4; clear n4; obtain ⟨lo5, hi5, bd, hm, ho⟩ := laws_FnExactBlocksOf.newS (base := w.heap.size) ho0 (below_size (bw HB.out)) (laws_FnExactBlocksOf.sz HM.out) hbb.out.size; have HO5 := Aside0.mk ho; replace HM := Aside0.mk hm; have BD2 := Aside0.mk (And.intro bd BD.out); clear BD; have BD := BD2; clear BD2; clear ho ho0 bd hm; obtain ⟨Ao5, co5, eo5⟩ := Kd.S_slice HO5.out; subst eo5; have n0_ := Aside0.mk (below_step (bw HB.out) hbb.out); replace HB := n0_; clear n0_ hbb) | ((with_reducible refine gate_callee (f := 26) rfl ?_); refine goesL_ (some 45) rfl rfl Try.func26 (by kernel_rfl) rfl #[.slice Ao5 t8.length co5, .slice Ao2 t4.length co2] rfl (by (try simp only [mA_]); first | done | rfl | (simp only [List.length_drop, List.length_take]; rfl)) ?_; (with_reducible refine (laws_eqIntSS.calls k _ _ t8 _ _ t4 true _ ?side1 ?side2 ?side3 ?side4 A10.out).mono ?_); (case side1 => exact laws_FnExactBlocksOf.cS HO5.out); (case side2 => exact (Kd.S_reads' HO5.out).2.1); (case side3 => exact laws_FnExactBlocksOf.cS HO2.out); (case side4 => exact (Kd.S_reads' HO2.out).2.1); rintro e w8 ⟨rfl, ⟨nd8, rfl⟩⟩; refine ⟨_, rfl, ?_⟩) | ((with_reducible refine gate_callee (f := 17) rfl ?_); refine goesL_ (some 54) rfl rfl Try.func17 (by kernel_rfl) rfl #[.slice A0 l0.length c0] rfl (by (try simp only [mA_]); first | done | rfl | (simp only [List.length_drop, List.length_take]; rfl)) ?_; (with_reducible refine (laws_toJobS.calls k A0 c0 l0 t11 _ ?side1 ?side2 A13.out).mono ?_); (case side1 => exact bC HR0.out HB.out); (case side2 => exact HC0.out); rintro e w9 ⟨v9_0, rfl, ho0, hb⟩; refine ⟨_, rfl, ?_⟩; have hbb := Aside0.mk hb; clear hb; have n2 := Aside0.mk (Kd.S_below (laws_FnExactBlocksOf.bS HO2.out) hbb.out); replace HO2 := n2; clear n2; have n3 := Aside0.mk (Kd.R_below (bR HO3.out) hbb.out); replace HO3 := n3; clear n3; have n4 := Aside0.mk (Kd.R_below (bR HO4.out) hbb.out); replace HO4 := n4; clear n4; have n5 := Aside0.mk (Kd.S_below (laws_FnExactBlocksOf.bS HO5.out) hbb.out); replace HO5 := n5; clear n5; obtain ⟨lo6, hi6, bd, hm, ho⟩ := laws_FnExactBlocksOf.newR (base := w.heap.size) ho0 (below_size (bw HB.out)) (laws_FnExactBlocksOf.sz HM.out) hbb.out.size; have HO6 := Aside0.mk ho; replace HM := Aside0.mk hm; have BD2 := Aside0.mk (And.intro bd BD.out); clear BD; have BD := BD2; clear BD2; clear ho ho0 bd hm; obtain ⟨Ao6, co6, eo6⟩ := Kd.R_slice HO6.out; subst eo6; have n0_ := Aside0.mk (below_step (bw HB.out) hbb.out); replace HB := n0_; clear n0_ hbb) | ((with_reducible refine gate_callee (f := 20) rfl ?_); refine goesL_ (some 55) rfl rfl Try.func20 (by kernel_rfl) rfl #[.slice Ao3 t6.length co3, .slice Ao6 t11.length co6] rfl (by (try simp only [mA_]); first | done | rfl | (simp only [List.length_drop, List.length_take]; rfl)) ?_; (with_reducible refine (laws_eqJobS.calls k _ _ t6 _ _ t11 true _ ?side1 ?side2 ?side3 ?side4 A14.out).mono ?_); (case side1 => exact laws_FnExactBlocksOf.cR HO3.out); (case side2 => exact (Kd.R_reads' HO3.out).2.1); (case side3 => exact laws_FnExactBlocksOf.cR HO6.out); (case side4 => exact (Kd.R_reads' HO6.out).2.1); rintro e w10 ⟨rfl, hb⟩; refine ⟨_, rfl, ?_⟩; have hbb := Aside0.mk hb; clear hb; have n2 := Aside0.mk (Kd.S_below (laws_FnExactBlocksOf.bS HO2.out) hbb.out); replace HO2 := n2; clear n2; have n3 := Aside0.mk (Kd.R_below (bR HO3.out) hbb.out); replace HO3 := n3; clear n3; have n4 := Aside0.mk (Kd.R_below (bR HO4.out) hbb.out); replace HO4 := n4; clear n4; have n5 := Aside0.mk (Kd.S_below (laws_FnExactBlocksOf.bS HO5.out) hbb.out); replace HO5 := n5; clear n5; replace HM := Aside0.mk (Nat.le_trans (laws_FnExactBlocksOf.sz HM.out) hbb.out.size); have n0_ := Aside0.mk (below_step (bw HB.out) hbb.out); replace HB := n0_; clear n0_ hbb) | ((with_reducible refine gate_callee (f := 18) rfl ?_); refine goesL_ (some 59) rfl rfl Try.func18 (by kernel_rfl) rfl #[.slice A1 l1.length c1] rfl (by (try simp only [mA_]); first | done | rfl | (simp only [List.length_drop, List.length_take]; rfl)) ?_; (with_reducible refine (laws_toIntS.calls k A1 c1 l1 t13 _ ?side1 ?side2 A16.out).mono ?_); (case side1 => exact bC HR1.out HB.out); (case side2 => exact HC1.out); rintro e w11 ⟨v11_0, rfl, ho0, hb⟩; refine ⟨_, rfl, ?_⟩; have hbb := Aside0.mk hb; clear hb; have n2 := Aside0.mk (Kd.S_below (laws_FnExactBlocksOf.bS HO2.out) hbb.out); replace HO2 := n2; clear n2; have n3 := Aside0.mk (Kd.R_below (bR HO3.out) hbb.out); replace HO3 := n3; clear n3; have n4 := Aside0.mk (Kd.R_below (bR HO4.out) hbb.out); replace HO4 := n4; clear n4; have n5 := Aside0.mk (Kd.S_below (laws_FnExactBlocksOf.bS HO5.out) hbb.out); replace HO5 := n5; clear n5; obtain ⟨lo7, hi7, bd, hm, ho⟩ := laws_FnExactBlocksOf.newR (base := w.heap.size) ho0 (below_size (bw HB.out)) (laws_FnExactBlocksOf.sz HM.out) hbb.out.size; have HO7 := Aside0.mk ho; replace HM := Aside0.mk hm; have BD2 := Aside0.mk (And.intro bd BD.out); clear BD; have BD := BD2; clear BD2; clear ho ho0 bd hm; obtain ⟨Ao7, co7, eo7⟩ := Kd.R_slice HO7.out; subst eo7; have n0_ := Aside0.mk (below_step (bw HB.out) hbb.out); replace HB := n0_; clear n0_ hbb) | ((with_reducible refine gate_callee (f := 21) rfl ?_); refine goesL_ (some 60) rfl rfl Try.func21 (by kernel_rfl) rfl #[.slice Ao4 t7.length co4, .slice Ao7 t13.length co7] rfl (by (try simp only [mA_]); first | done | rfl | (simp only [List.length_drop, List.length_take]; rfl)) ?_; (with_reducible refine (laws_eqIntS.calls k _ _ t7 _ _ t13 true _ ?side1 ?side2 ?side3 ?side4 A17.out).mono ?_); (case side1 => exact laws_FnExactBlocksOf.cR HO4.out); (case side2 => exact (Kd.R_reads' HO4.out).2.1); (case side3 => exact laws_FnExactBlocksOf.cR HO7.out); (case side4 => exact (Kd.R_reads' HO7.out).2.1); rintro e w12 ⟨rfl, ⟨nd12, rfl⟩⟩; refine ⟨_, rfl, ?_⟩) | ((with_reducible refine gate_callee (f := 27) rfl ?_); refine goesL_ (some 64) rfl rfl Try.func27 (by kernel_rfl) rfl #[.slice Ao3 t6.length co3, .int .i64 1] rfl (by (try simp only [mA_]); first | done | rfl | (simp only [List.length_drop, List.length_take]; rfl)) ?_; (with_reducible refine (laws_markJobS.calls k (fun k_ => lo3 ≤ k_ ∧ k_ < hi3) _ t6 1 t15 t16 w _ ?side1 ?side2 A19.out).mono ?_); (case side1 => exact bw HB.out); (case side2 => exact bR HO3.out); rintro e w13 ⟨rfl, ho0, hb, hk⟩; refine ⟨_, rfl, ?_⟩; have n2 := Aside0.mk (Kd.S_kept (laws_FnExactBlocksOf.bS HO2.out) hk (fun k_ h1 h2 => by have b_ := BD.out; omega)); replace HO2 := n2; clear n2; have n4 := Aside0.mk (Kd.R_kept (bR HO4.out) hk (fun k_ h1 h2 => by have b_ := BD.out; omega)); replace HO4 := n4; clear n4; have n5 := Aside0.mk (Kd.S_kept (laws_FnExactBlocksOf.bS HO5.out) hk (fun k_ h1 h2 => by have b_ := BD.out; omega)); replace HO5 := n5; clear n5; have n0_ := Aside0.mk hb; replace HB := n0_; replace HM := Aside0.mk (Nat.le_trans (laws_FnExactBlocksOf.sz HM.out) hk.1); clear n0_ ho0 hb hk) | ((with_reducible refine gate_callee (f := 28) rfl ?_); refine goesL_ (some 67) rfl rfl Try.func28 (by kernel_rfl) rfl #[.slice Ao4 t7.length co4, .int .i64 t15] rfl (by (try simp only [mA_]); first | done | rfl | (simp only [List.length_drop, List.length_take]; rfl)) ?_; (with_reducible refine (laws_markIntS.calls k (fun k_ => lo4 ≤ k_ ∧ k_ < hi4) _ t7 t15 t17 t18 w _ ?side1 ?side2 A20.out).mono ?_); (case side1 => exact bw HB.out); (case side2 => exact bR HO4.out); rintro e w14 ⟨rfl, ho0, hb, hk⟩; refine ⟨_, rfl, ?_⟩; have n2 := Aside0.mk (Kd.S_kept (laws_FnExactBlocksOf.bS HO2.out) hk (fun k_ h1 h2 => by have b_ := BD.out; omega)); replace HO2 := n2; clear n2; have n5 := Aside0.mk (Kd.S_kept (laws_FnExactBlocksOf.bS HO5.out) hk (fun k_ h1 h2 => by have b_ := BD.out; omega)); replace HO5 := n5; clear n5; have n0_ := Aside0.mk hb; replace HB := n0_; replace HM := Aside0.mk (Nat.le_trans (laws_FnExactBlocksOf.sz HM.out) hk.1); clear n0_ ho0 hb hk) | (go_at_call 26; (with_reducible refine (laws_eqIntSS.calls k _ _ t8 _ _ t4 true _ ?side1 ?side2 ?side3 ?side4 A22.out).mono ?_); (case side1 => exact laws_FnExactBlocksOf.cS HO5.out); (case side2 => exact (Kd.S_reads' HO5.out).2.1); (case side3 => exact laws_FnExactBlocksOf.cS HO2.out); (case side4 => exact (Kd.S_reads' HO2.out).2.1); rintro e w15 ⟨rfl, ⟨nd15, rfl⟩⟩) | ((with_reducible refine gate_callee (f := 29) rfl ?_); refine goesL_ (some 83) rfl rfl Try.func29 (by kernel_rfl) rfl #[.slice Ao5 t8.length co5, .int .i64 1] rfl (by (try simp only [mA_]); first | done | rfl | (simp only [List.length_drop, List.length_take]; rfl)) ?_; (with_reducible refine (laws_markIntSS.calls k (fun k_ => lo5 ≤ k_ ∧ k_ < hi5) _ t8 1 t20 t21 w _ ?side1 ?side2 A25.out).mono ?_); (case side1 => exact bw HB.out); (case side2 => exact laws_FnExactBlocksOf.bS HO5.out); rintro e w16 ⟨rfl, ho0, hb, hk⟩; refine ⟨_, rfl, ?_⟩; have n2 := Aside0.mk (Kd.S_kept (laws_FnExactBlocksOf.bS HO2.out) hk (fun k_ h1 h2 => by have b_ := BD.out; omega)); replace HO2 := n2; clear n2; have LN5 := Aside0.mk (Kd.S_reads' ho0).1; rw [LN5.out] at ho0; replace HO5 := Aside0.mk ho0; have n0_ := Aside0.mk hb; replace HB := n0_; replace HM := Aside0.mk (Nat.le_trans (laws_FnExactBlocksOf.sz HM.out) hk.1); clear n0_ ho0 hb hk) | ((with_reducible refine gate_callee (f := 30) rfl ?_); refine goesL_ (some 86) rfl rfl Try.func30 (by kernel_rfl) rfl #[.slice Ao5 t8.length co5, .int .i64 1] rfl (by (try simp only [mA_]); first | done | rfl | (simp only [List.length_drop, List.length_take]; rfl)) ?_; refine calls_args (a' := #[.slice Ao5 t21.length co5, .int .i64 1]) (by rw [LN5.out]) ?_; (with_reducible refine (laws_heldIntSS.calls k _ _ t21 1 t22 _ ?side1 ?side2 A26.out).mono ?_); (case side1 => exact laws_FnExactBlocksOf.cS HO5.out); (case side2 => exact (Kd.S_reads' HO5.out).2.1); rintro e w17 ⟨rfl, ⟨nd17, rfl⟩⟩; refine ⟨_, rfl, ?_⟩) | ((with_reducible refine gate_callee (f := 17) rfl ?_); refine goesL_ (some 94) rfl rfl Try.func17 (by kernel_rfl) rfl #[.slice A0 l0.length c0] rfl (by (try simp only [mA_]); first | done | rfl | (simp only [List.length_drop, List.length_take]; rfl)) ?_; (with_reducible refine (laws_toJobS.calls k A0 c0 l0 t23 _ ?side1 ?side2 A29.out).mono ?_); (case side1 => exact bC HR0.out HB.out); (case side2 => exact HC0.out); rintro e w18 ⟨v18_0, rfl, ho0, hb⟩; refine ⟨_, rfl, ?_⟩; have hbb := Aside0.mk hb; clear hb; have n2 := Aside0.mk (Kd.S_below (laws_FnExactBlocksOf.bS HO2.out) hbb.out); replace HO2 := n2; clear n2; have n5 := Aside0.mk (Kd.S_below (laws_FnExactBlocksOf.bS HO5.out) hbb.out); replace HO5 := n5; clear n5; obtain ⟨lo8, hi8, bd, hm, ho⟩ := laws_FnExactBlocksOf.newR (base := w.heap.size) ho0 (below_size (bw HB.out)) (laws_FnExactBlocksOf.sz HM.out) hbb.out.size; have HO8 := Aside0.mk ho; replace HM := Aside0.mk hm; have BD2 := Aside0.mk (And.intro bd BD.out); clear BD; have BD := BD2; clear BD2; clear ho ho0 bd hm; obtain ⟨Ao8, co8, eo8⟩ := Kd.R_slice HO8.out; subst eo8; have n0_ := Aside0.mk (below_step (bw HB.out) hbb.out); replace HB := n0_; clear n0_ hbb) | ((with_reducible refine gate_callee (f := 18) rfl ?_); refine goesL_ (some 96) rfl rfl Try.func18 (by kernel_rfl) rfl #[.slice A1 l1.length c1] rfl (by (try simp only [mA_]); first | done | rfl | (simp only [List.length_drop, List.length_take]; rfl)) ?_; (with_reducible refine (laws_toIntS.calls k A1 c1 l1 t24 _ ?side1 ?side2 A30.out).mono ?_); (case side1 => exact bC HR1.out HB.out); (case side2 => exact HC1.out); rintro e w19 ⟨v19_0, rfl, ho0, hb⟩; refine ⟨_, rfl, ?_⟩; have hbb := Aside0.mk hb; clear hb; have n2 := Aside0.mk (Kd.S_below (laws_FnExactBlocksOf.bS HO2.out) hbb.out); replace HO2 := n2; clear n2; have n5 := Aside0.mk (Kd.S_below (laws_FnExactBlocksOf.bS HO5.out) hbb.out); replace HO5 := n5; clear n5; have n8 := Aside0.mk (Kd.R_below (bR HO8.out) hbb.out); replace HO8 := n8; clear n8; obtain ⟨lo9, hi9, bd, hm, ho⟩ := laws_FnExactBlocksOf.newR (base := w.heap.size) ho0 (below_size (bw HB.out)) (laws_FnExactBlocksOf.sz HM.out) hbb.out.size; have HO9 := Aside0.mk ho; replace HM := Aside0.mk hm; have BD2 := Aside0.mk (And.intro bd BD.out); clear BD; have BD := BD2; clear BD2; clear ho ho0 bd hm; obtain ⟨Ao9, co9, eo9⟩ := Kd.R_slice HO9.out; subst eo9; have n0_ := Aside0.mk (below_step (bw HB.out) hbb.out); replace HB := n0_; clear n0_ hbb) | ((with_reducible refine gate_callee (f := 25) rfl ?_); refine goesL_ (some 97) rfl rfl Try.func25 (by kernel_rfl) rfl #[.slice Ao8 t23.length co8, .slice Ao9 t24.length co9] rfl (by (try simp only [mA_]); first | done | rfl | (simp only [List.length_drop, List.length_take]; rfl)) ?_; (with_reducible refine (impl_BlocksOf.calls k _ _ t23 _ _ t24 t25 t26 _ ?side1 ?side2 ?side3 ?side4 A31.out).mono ?_); (case side1 => exact laws_FnExactBlocksOf.cR HO8.out); (case side2 => exact (Kd.R_reads' HO8.out).2.1); (case side3 => exact laws_FnExactBlocksOf.cR HO9.out); (case side4 => exact (Kd.R_reads' HO9.out).2.1); rintro e w20 ⟨v20_0, rfl, ho0, hb⟩; refine ⟨_, rfl, ?_⟩; have hbb := Aside0.mk hb; clear hb; have n2 := Aside0.mk (Kd.S_below (laws_FnExactBlocksOf.bS HO2.out) hbb.out); replace HO2 := n2; clear n2; have n5 := Aside0.mk (Kd.S_below (laws_FnExactBlocksOf.bS HO5.out) hbb.out); replace HO5 := n5; clear n5; obtain ⟨lo10, hi10, bd, hm, ho⟩ := laws_FnExactBlocksOf.newS (base := w.heap.size) ho0 (below_size (bw HB.out)) (laws_FnExactBlocksOf.sz HM.out) hbb.out.size; have HO10 := Aside0.mk ho; replace HM := Aside0.mk hm; have BD2 := Aside0.mk (And.intro bd BD.out); clear BD; have BD := BD2; clear BD2; clear ho ho0 bd hm; obtain ⟨Ao10, co10, eo10⟩ := Kd.S_slice HO10.out; subst eo10; have n0_ := Aside0.mk (below_step (bw HB.out) hbb.out); replace HB := n0_; clear n0_ hbb) | ((with_reducible refine gate_callee (f := 26) rfl ?_); refine goesL_ (some 102) rfl rfl Try.func26 (by kernel_rfl) rfl #[.slice Ao10 t25.length co10, .slice Ao2 t4.length co2] rfl (by (try simp only [mA_]); first | done | rfl | (simp only [List.length_drop, List.length_take]; rfl)) ?_; (with_reducible refine (laws_eqIntSS.calls k _ _ t25 _ _ t4 true _ ?side1 ?side2 ?side3 ?side4 A32.out).mono ?_); (case side1 => exact laws_FnExactBlocksOf.cS HO10.out); (case side2 => exact (Kd.S_reads' HO10.out).2.1); (case side3 => exact laws_FnExactBlocksOf.cS HO2.out); (case side4 => exact (Kd.S_reads' HO2.out).2.1); rintro e w21 ⟨rfl, ⟨nd21, rfl⟩⟩; refine ⟨_, rfl, ?_⟩) | ((with_reducible refine gate_callee (f := 30) rfl ?_); refine goesL_ (some 111) rfl rfl Try.func30 (by kernel_rfl) rfl #[.slice Ao5 t8.length co5, .int .i64 1] rfl (by (try simp only [mA_]); first | done | rfl | (simp only [List.length_drop, List.length_take]; rfl)) ?_; refine calls_args (a' := #[.slice Ao5 t21.length co5, .int .i64 1]) (by rw [LN5.out]) ?_; (with_reducible refine (laws_heldIntSS.calls k _ _ t21 1 t28 _ ?side1 ?side2 A35.out).mono ?_); (case side1 => exact laws_FnExactBlocksOf.cS HO5.out); (case side2 => exact (Kd.S_reads' HO5.out).2.1); rintro e w22 ⟨rfl, ⟨nd22, rfl⟩⟩; refine ⟨_, rfl, ?_⟩))
 go_ret
 exact ⟨by first | rfl | (simp [*]; done), bw HB.out⟩

end Go.Proofs.Ytgpnophjbibhhaa.X
