-- Written by a program of this session (wip/gen/xp.py, over the kit's printer). Not trusted: Lean checks it.
import Derived.Test.YtenfjdjejnoofaaX0
import Derived.Test.YtenfjdjejnoofaaXf4
import Derived.Test.YtenfjdjejnoofaaXf6
namespace Go.Proofs.Ytenfjdjejnoofaa.X
open Go.RowKit Go.Proofs.YtenfjdjejnoofaaW.PrintWords Go.Proofs.YtenfjdjejnoofaaW.PrintLast Go.Proofs.YtenfjdjejnoofaaW.PrintMore
attribute [local go_sem] max2_int min2_int max_two min_two max_three min_three max_four min_four   -- for this text's walks alone
set_option linter.unusedVariables false
set_option linter.unusedSimpArgs false

/-! ### laws_markIntSS: function 11 -/
def laws_markIntSS.l0 : Nat → List (List (Int)) → Int → Int → Option (Int × List (List (Int)))
 | 0, _, _, _ => none
 | k + 1, x0, x1, x5 => if x5 < (x0.length : Int) then (if 0 ≤ x5 then ((laws_markIntS.f k (x0.getD x5.toNat ([] : List (Int))) x1).bind fun p => (laws_markIntSS.l0 k (x0.set (x5 : Int).toNat p.2) p.1 (wrap64 (x5 + 1)))) else (none)) else (some (x1, x0))
def laws_markIntSS.f (k : Nat) (l0 : List (List (Int))) (a1 : Int) : Option (Int × List (List (Int))) := laws_markIntSS.l0 k l0 a1 0
theorem laws_markIntSS.mono_l : ∀ k, (∀ y0 y1 y2, LeO (laws_markIntSS.l0 k y0 y1 y2) (laws_markIntSS.l0 (k + 1) y0 y1 y2))
 | 0 => fun _ _ _ r h => by simp [laws_markIntSS.l0] at h
 | k + 1 => by
  have ih0 := laws_markIntSS.mono_l k
  intro y0 y1 y2
  unfold laws_markIntSS.l0
  exact LeO.ite (LeO.ite (LeO.bind (laws_markIntS.mono _ _ _) (fun _ => ih0 _ _ _)) (LeO.none _)) (LeO.refl _)
theorem laws_markIntSS.mono : ∀ a0 a1 k, LeO (laws_markIntSS.f k a0 a1) (laws_markIntSS.f (k + 1) a0 a1) := fun a0 a1 k => laws_markIntSS.mono_l k a0 a1 0
/-- A round: one row is marked. -/
theorem laws_markIntSS.step {w0 wr w' : World} {P : Nat → Prop} {c ci n : Nat} {xs : List (List (Int))} {i : Int} {g : Nat} {oki : Nat → Prop} {Ai : Option Addr} {ys : List (Int)}
  (hB : Below w0.heap.size w0 wr) (hB' : Below w0.heap.size w0 w')
  (hbk : ∀ {w1 : World} {row : Option Nat} {x' : List (Int)}, wr.grownBy w1 row → (∀ k, row = some k → oki k) → (Kd.slice 3 (Kd.int .i64)).M w1 w0.heap.size oki x' [.slice Ai n ci] → Kd.S (Kd.slice 3 (Kd.int .i64)) 23 w1 w0.heap.size P (.slice (some ⟨g, 0, none⟩) xs.length c) (xs.set i.toNat x'))
  (hR : Kd.R (Kd.int .i64) 3 wr w0.heap.size oki (.slice Ai n ci) ys) {zs : List (Int)}
  (hR' : Kd.R (Kd.int .i64) 3 w' w0.heap.size (fun k_ => (some k_ = (Value.slice Ai n ci).ownBlock ∨ wr.heap.size ≤ k_)) (.slice Ai n ci) zs) (hK : Kept wr w' (fun k_ => some k_ = (Value.slice Ai n ci).ownBlock)) :
  Kd.S (Kd.slice 3 (Kd.int .i64)) 23 w' w0.heap.size P (.slice (some ⟨g, 0, none⟩) xs.length c) (xs.set i.toNat zs) := by
 have hg : wr.grownBy w' (Value.slice Ai n ci).ownBlock := ⟨hB'.os.trans hB.os.symm, hB'.tape.trans hB.tape.symm, hB'.output.trans hB.output.symm, hK.1, fun k hk hne => hK.2 k hk hne⟩
 refine hbk hg (fun k hk => hR.1 k hk) ?_
 exact Kd.M_row (Kd.R_reok rfl hR' (fun k hk => hR.1 k hk))
set_option maxHeartbeats 8000000 in
set_option maxRecDepth 100000 in
theorem laws_markIntSS.calls (k : Nat) (P0_ : Nat → Prop) (u9000_ : Value) (l0 : List (List (Int))) (a1 : Int) (r1 : Int) (r2 : List (List (Int))) (w0 w : World) (hB : Below w0.heap.size w0 w) (ho0 : Kd.S (Kd.slice 3 (Kd.int .i64)) 23 w w0.heap.size P0_ u9000_ l0) (h : laws_markIntSS.f k l0 a1 = some (r1, r2)) :
  Calls Try.prog 11 #[u9000_, .int .i64 a1] w fun e w' => e = .returned (.int .i64 r1) ∧ Kd.S (Kd.slice 3 (Kd.int .i64)) 23 w' w0.heap.size P0_ u9000_ r2 ∧ Below w0.heap.size w0 w' ∧ Kept w w' (fun k_ => P0_ k_) := by
 have HO0 := Aside0.mk ho0
 have HK := Aside0.mk (Kept.refl w (fun k_ => P0_ k_))
 have HB := Aside0.mk hB
 clear hB ho0
 have H' : Aside0 ((laws_markIntSS.l0 k l0 a1 0) = some (r1, r2)) := ⟨h⟩
 clear h
 obtain ⟨A0, c0, e0⟩ := Kd.S_slice HO0.out
 subst e0
 go_enter Try.func11, Try.ntmps11
 go_wp2
 go_loopg [1, 5] k (fun kq v1 v5 w' => ∃ (x0_1 : List (List (Int))) (x1_1 : Int) (x5_1 : Int), v1 = .int .i64 x1_1 ∧ v5 = .int .i64 x5_1 ∧ Aside0 (laws_markIntSS.l0 kq x0_1 x1_1 x5_1 = some (r1, r2)) ∧ Aside0 (kq ≤ k) ∧ Aside0 (x0_1.length = l0.length) ∧ Aside0 (Kd.S (Kd.slice 3 (Kd.int .i64)) 23 w' w0.heap.size P0_ (.slice A0 l0.length c0) x0_1) ∧ Aside0 (Kept w w' (fun k_ => P0_ k_)) ∧ Aside0 (Below w0.heap.size w0 w'))
 case atStart => exact ⟨l0, a1, 0, rfl, rfl, H', ⟨Nat.le_refl _⟩, ⟨rfl⟩, HO0, HK, HB⟩
 case round =>
  clear H' HO0 HK HB
  obtain ⟨x0_1, x1_1, x5_1, rfl, rfl, HA, HK1, HL, HO, HK, HB⟩ := hrel
  cases gk with
  | zero => exact absurd HA.out (by simp [laws_markIntSS.l0])
  | succ k1 =>
   have H := HA.out
   clear HA
   simp only [laws_markIntSS.l0] at H
   by_cases c3 : x5_1 < (x0_1.length : Int)
   rotate_left
   ·rw [if_neg c3] at H
    have c3b0 : decide (x5_1 < (l0.length : Int)) = false := decide_eq_false (by have := HL.out; omega)
    simp only [Option.some.injEq, Prod.mk.injEq] at H
    obtain ⟨rfl, rfl⟩ := H
    clear c3
    go_wp2
    go_ret
    exact ⟨rfl, HO.out, HB.out, HK.out⟩
   rw [if_pos c3] at H
   by_cases c4 : 0 ≤ x5_1
   rotate_left
   ·rw [if_neg c4] at H
    exact absurd H (by simp)
   rw [if_pos c4] at H
   obtain ⟨⟨t1, t2⟩, A1, H⟩ := Option.bind_eq_some_iff.mp H
   have c3l : x5_1 < (l0.length : Int) := by have := HL.out; omega
   have c3b0 : decide (x5_1 < (l0.length : Int)) = true := decide_eq_true c3l
   have c4b := eq_true c4
   have c3t := eq_true c3l
   obtain ⟨go, co, eo, gb, gl, cl, HG⟩ := Kd.S_form HO.out (by omega)
   have HL' := HL.out
   obtain ⟨rfl, rfl⟩ : A0 = some ⟨go, 0, none⟩ ∧ c0 = co := by
    injection eo with e1 e2 e3
    exact ⟨e1, e3⟩
   have HO2 := Aside0.mk (show Kd.S (Kd.slice 3 (Kd.int .i64)) 23 wr w0.heap.size P0_ (.slice (some ⟨go, 0, none⟩) x0_1.length c0) x0_1 from by rw [HL']; exact HO.out)
   obtain ⟨oki, ce, hcl, hM, hcc, hok, hbk⟩ := Kd.S_borrow HO2.out ([] : List (Int)) x5_1 c4 c3
   obtain ⟨ve, rfl, hR⟩ := hM
   have hv := hcc 0 _ rfl
   obtain ⟨Ai, ci, ei⟩ := Kd.R_slice hR
   have ez : (⟨go, 0, none⟩ : Addr).add (x5_1.toNat * (Kd.slice 3 (Kd.int .i64)).sz + 0) = ⟨go, x5_1.toNat, none⟩ := by
    rw [Nat.add_zero, show (Kd.slice 3 (Kd.int .i64)).sz = 1 from rfl, Nat.mul_one]
    first | rfl | (simp only [add_plain]; done) | simp [Addr.add]
   rw [ez] at hv
   obtain ⟨ys, hys⟩ : ∃ ys : List (Int), ys = x0_1.getD x5_1.toNat [] := ⟨_, rfl⟩
   rw [← hys] at hR A1 ei
   subst ei
   have HR := Aside0.mk hR
   have HBK := Aside0.mk (fun (w' : World) (zs : List (Int)) (hB' : Below w0.heap.size w0 w') hR' hK => laws_markIntSS.step (zs := zs) HB.out hB' hbk hR hR' hK)
   have HOK := Aside0.mk (fun k_ (e_ : some k_ = (Value.slice Ai ys.length ci).ownBlock) => (hok k_ (hR.1 k_ e_.symm)).1)
   have HCA := Aside0.mk (laws_markIntS.calls k1 (fun k_ => some k_ = (Value.slice Ai ys.length ci).ownBlock) (.slice Ai ys.length ci) ys x1_1 t1 t2 w0 wr HB.out (Kd.R_tight rfl hR) A1)
   have H' := Aside0.mk H
   have HYS := Aside0.mk hys
   clear H A1 hbk hok hR hcc hcl HG gb gl cl eo c3 c4 c3l HL' ez hys
   go_wp2_with (go_at_call 12; (with_reducible refine (HCA.out).mono ?_); rintro e w' ⟨rfl, hi, hb, hk⟩; have n0 := Aside0.mk (HBK.out w' t2 hb hi hk); have n1 := Aside0.mk hb; have n2 := Aside0.mk (show Kept w w' (fun k_ => P0_ k_) from ⟨Nat.le_trans HK.out.1 hk.1, fun i hi_ hn_ => (hk.2 i (Nat.lt_of_lt_of_le hi_ HK.out.1) (fun e_ => hn_ (HOK.out i e_))).trans (HK.out.2 i hi_ hn_)⟩); clear hi hb hk HB HK; have HB := n1; have HK := n2; clear n1 n2)
   go_roundg k1
   case measure => have := HK1.out; omega
   case rel =>
    refine ⟨x0_1.set x5_1.toNat t2, t1, wrap64 (x5_1 + 1), (by first | rfl | (simp; done)), (by first | rfl | (simp; done)), H', ⟨by have := HK1.out; omega⟩, ⟨by rw [List.length_set]; exact HL.out⟩, ⟨?_⟩, HK, HB⟩
    have h_ := n0.out
    rw [HL.out] at h_
    exact h_

/-! ### laws_heldIntS: function 13 -/
def laws_heldIntS.l0 : Nat → List Int → Int → Int → Option (Int)
 | 0, _, _, _ => none
 | k + 1, x0, x1, x5 => if x5 < (x0.length : Int) then (if 0 ≤ x5 then (if (rd x0 x5) = x1 then (laws_heldIntS.l0 k x0 (wrap64 (x1 + 1)) (wrap64 (x5 + 1))) else (some (-1))) else (none)) else (some x1)
def laws_heldIntS.f (k : Nat) (l0 : List Int) (a1 : Int) : Option (Int) := laws_heldIntS.l0 k l0 a1 0
theorem laws_heldIntS.mono_l : ∀ k, (∀ y0 y1 y2, LeO (laws_heldIntS.l0 k y0 y1 y2) (laws_heldIntS.l0 (k + 1) y0 y1 y2))
 | 0 => fun _ _ _ r h => by simp [laws_heldIntS.l0] at h
 | k + 1 => by
  have ih0 := laws_heldIntS.mono_l k
  ·intro y0 y1 y2
   unfold laws_heldIntS.l0
   repeat' first
   | (with_reducible exact ih0 _ _ _)
   | (with_reducible exact LeO.refl _)
   | (with_reducible exact LeO.none _)
   | (with_reducible refine LeO.ite ?_ ?_)
   | (with_reducible refine LeO.bind ?_ (fun _ => ?_))
   | exact ih0 _ _ _
   | exact LeO.none _
   | refine LeO.ite ?_ ?_
   | refine LeO.bind ?_ (fun _ => ?_)
theorem laws_heldIntS.mono : ∀ a0 a1 k, LeO (laws_heldIntS.f k a0 a1) (laws_heldIntS.f (k + 1) a0 a1) := by
 intro a0 a1 k
 have ih0 := laws_heldIntS.mono_l k
 unfold laws_heldIntS.f
 repeat' first
   | (with_reducible exact ih0 _ _ _)
   | (with_reducible exact LeO.refl _)
   | (with_reducible exact LeO.none _)
   | (with_reducible refine LeO.ite ?_ ?_)
   | (with_reducible refine LeO.bind ?_ (fun _ => ?_))
   | exact ih0 _ _ _
   | exact LeO.none _
   | refine LeO.ite ?_ ?_
   | refine LeO.bind ?_ (fun _ => ?_)
set_option maxHeartbeats 8000000 in
set_option maxRecDepth 100000 in
theorem laws_heldIntS.calls (k : Nat) (A0 : Option Addr) (c0 : Nat) (l0 : List Int) (a1 : Int) (r : Int) (w : World) (hr0 : Kd.C (Kd.int .i64) w A0 l0.length l0) (hc0 : l0.length ≤ c0) (h : laws_heldIntS.f k l0 a1 = some r) :
  Calls Try.prog 13 #[.slice A0 l0.length c0, .int .i64 a1] w fun e w' => e = .returned (.int .i64 r) ∧ Drawn0 w w' := by
 have HR0 := Aside0.mk hr0
 have HC0 := Aside0.mk hc0
 clear hr0 hc0
 have H : (laws_heldIntS.l0 k l0 a1 0) = some r := h
 clear h
 have H' := Aside0.mk H
 clear H
 go_enter Try.func13, Try.ntmps13
 go_wp2
 go_loopg [1, 5] k (fun kq v1 v5 w' => ∃ (x1_1 : Int) (x5_1 : Int), v1 = .int .i64 x1_1 ∧ v5 = .int .i64 x5_1 ∧ Aside0 (laws_heldIntS.l0 kq l0 x1_1 x5_1 = some r) ∧ Aside0 (kq ≤ k) ∧ Drawn0 w w')
 case atStart => exact ⟨(a1), (0), (by first | rfl | (simp; done) | (simp [*]; done)), (by first | rfl | (simp; done) | (simp [*]; done)), H', ⟨Nat.le_refl _⟩, by repeat (first | exact Drawn0.refl _ | apply Drawn0.step)⟩
 case round =>
  clear H'
  try clear c1
  try clear p2
  obtain ⟨x1_1, x5_1, rfl, rfl, HA, HK1, ⟨m1, rfl⟩⟩ := hrel
  cases gk with
  | zero => exact absurd HA.out (by simp [laws_heldIntS.l0])
  | succ k1 =>
   have H := HA.out
   clear HA
   simp only [laws_heldIntS.l0] at H
   by_cases c3 : x5_1 < (l0.length : Int)
   rotate_left
   ·rw [if_neg c3] at H
    have c3b0 : decide (x5_1 < (l0.length : Int)) = false := decide_eq_false c3
    clear c3
    obtain rfl := Option.some.inj H
    go_wp2
    go_ret
    exact ⟨by first | rfl | (simp; done) | (simp [*]; done), by repeat (first | exact Drawn0.refl _ | apply Drawn0.step)⟩
   rw [if_pos c3] at H
   have c3b0 : decide (x5_1 < (l0.length : Int)) = true := decide_eq_true c3
   clear c3
   by_cases c4 : 0 ≤ x5_1
   rotate_left
   ·rw [if_neg c4] at H
    exact absurd H (by simp)
   rw [if_pos c4] at H
   have c4b0 : decide (0 ≤ x5_1) = true := decide_eq_true c4
   clear c4
   by_cases c5 : (rd l0 x5_1) = x1_1
   rotate_left
   ·rw [if_neg c5] at H
    have c5b0 : ((rd l0 x5_1) == x1_1) = false := beq_eq_false_iff_ne.mpr c5
    have c5b1 : ((rd l0 x5_1) != x1_1) = true := bne_iff_ne.mpr c5
    obtain rfl := Option.some.inj H
    have p279 : 0 ≤ (x5_1 : Int) := of_decide_eq_true (by first | (with_reducible assumption) | assumption)
    have q279 : x5_1 < (l0.length : Int) := of_decide_eq_true (by first | (with_reducible assumption) | assumption)
    obtain ⟨ad279, e279, hx279_0⟩ := Kd.at_int HR0.out x5_1 p279 q279
    cases e279
    replace p279 := eq_true p279
    replace q279 := eq_true q279
    go_wp2
    go_ret
    exact ⟨by first | rfl | (simp; done) | (simp [*]; done), by repeat (first | exact Drawn0.refl _ | apply Drawn0.step)⟩
   rw [if_pos c5] at H
   have c5b0 : ((rd l0 x5_1) == x1_1) = true := beq_iff_eq.mpr c5
   have c5b1 : ((rd l0 x5_1) != x1_1) = false := bne_eq_false_iff_eq.mpr c5
   clear c5
   have H' := Aside0.mk H
   clear H
   have p279 : 0 ≤ (x5_1 : Int) := of_decide_eq_true (by first | (with_reducible assumption) | assumption)
   have q279 : x5_1 < (l0.length : Int) := of_decide_eq_true (by first | (with_reducible assumption) | assumption)
   obtain ⟨ad279, e279, hx279_0⟩ := Kd.at_int HR0.out x5_1 p279 q279
   cases e279
   replace p279 := eq_true p279
   replace q279 := eq_true q279
   go_wp2
   go_roundg k1
   case measure => have := HK1.out; omega
   case rel => exact ⟨(wrap64 (x1_1 + 1)), (wrap64 (x5_1 + 1)), (by first | rfl | (simp; done) | (simp [*]; done)), (by first | rfl | (simp; done) | (simp [*]; done)), H', ⟨by have := HK1.out; omega⟩, by repeat (first | exact Drawn0.refl _ | apply Drawn0.step)⟩

/-! ### laws_FnExactLongestStair: function 3 -/
def laws_FnExactLongestStair.f (k : Nat) (l0 : List (List Int)) (l1 : List Int) : Option (Bool) := (if (l1.length : Int) > 1048576 then some true else ((laws_szIntSS.f k l0 1048576).bind fun t1 => (if t1 < 0 then some true else ((laws_toIntSS.f k l0).bind fun t2 => ((laws_toIntS.f k l1).bind fun t3 => ((spec_LongestStair.f k t2 t3).bind fun bt4 => ((laws_toIntSS.f k l0).bind fun t6 => ((laws_toIntS.f k l1).bind fun t7 => ((impl_LongestStair.f k t6 t7).bind fun bt8 => ((laws_eqIntS.f k bt8.1 bt4.1).bind fun t10 => (if t10 = true then (if bt8.2 = bt4.2 then ((laws_toIntSS.f k l0).bind fun t11 => ((laws_eqIntSS.f k t6 t11).bind fun t12 => (if t12 = true then ((laws_toIntS.f k l1).bind fun t13 => ((laws_eqIntS.f k t7 t13).bind fun t14 => (if t14 = true then ((laws_markIntSS.f k t6 1).bind fun bt15 => ((laws_markIntS.f k t7 bt15.1).bind fun bt17 => (if bt17.1 < 0 then none else ((laws_eqIntS.f k bt8.1 bt4.1).bind fun t19 => (if t19 = true then (if bt8.2 = bt4.2 then ((laws_markIntS.f k bt8.1 1).bind fun bt20 => ((laws_heldIntS.f k bt20.2 1).bind fun t22 => (if t22 < 0 then none else (if t22 = bt20.1 then ((laws_toIntSS.f k l0).bind fun t23 => ((laws_toIntS.f k l1).bind fun t24 => ((impl_LongestStair.f k t23 t24).bind fun bt25 => ((laws_eqIntS.f k bt25.1 bt4.1).bind fun t27 => (if t27 = true then (if bt25.2 = bt4.2 then ((laws_heldIntS.f k bt20.2 1).bind fun t28 => (if t28 < 0 then none else (if t28 = bt20.1 then some true else none))) else none) else none))))) else none)))) else none) else none))))) else none))) else none))) else none) else none)))))))))))
theorem laws_FnExactLongestStair.mono : ∀ l0 l1 k, LeO (laws_FnExactLongestStair.f k l0 l1) (laws_FnExactLongestStair.f (k + 1) l0 l1) := by
 intro l0 l1 k
 unfold laws_FnExactLongestStair.f
 repeat' first
  | (with_reducible exact impl_LongestStair.mono _ _ _)
  | (with_reducible exact laws_eqIntS.mono _ _ _)
  | (with_reducible exact laws_eqIntSS.mono _ _ _)
  | (with_reducible exact laws_heldIntS.mono _ _ _)
  | (with_reducible exact laws_markIntS.mono _ _ _)
  | (with_reducible exact laws_markIntSS.mono _ _ _)
  | (with_reducible exact laws_szIntSS.mono _ _ _)
  | (with_reducible exact laws_toIntS.mono _ _)
  | (with_reducible exact laws_toIntSS.mono _ _)
  | (with_reducible exact spec_LongestStair.mono _ _ _)
  | (with_reducible exact LeO.refl _)
  | (with_reducible exact LeO.none _)
  | (with_reducible refine LeO.ite ?_ ?_)
  | (with_reducible refine LeO.bind ?_ (fun _ => ?_))
theorem laws_FnExactLongestStair.bS {α : Type} {d : Kd α} {e base : Nat} {w' w : World} {ok : Nat → Prop} {v : Value} {xs : List α} (h : Kd.S d e w base ok v xs) [k : Bs w' w] : Kd.S d e w' base ok v xs := by
 obtain ⟨k⟩ := k
 exact Kd.S_below h k.out
theorem laws_FnExactLongestStair.sz {w' w : World} {m : Nat} (h : m ≤ w.heap.size) [k : Bs w' w] : m ≤ w'.heap.size := by
 obtain ⟨k⟩ := k
 exact Nat.le_trans h k.out.size
theorem laws_FnExactLongestStair.cS {α : Type} {d : Kd α} {e base : Nat} {ok : Nat → Prop} {w w' : World} {A : Option Addr} {n c : Nat} {xs : List α} (h : Kd.S d e w base ok (.slice A n c) xs) [k : Bs w' w] : d.C w' A xs.length xs := (Kd.S_reads' (laws_FnExactLongestStair.bS h)).2.2
theorem laws_FnExactLongestStair.cR {α : Type} {d : Kd α} {e base : Nat} {ok : Nat → Prop} {w w' : World} {A : Option Addr} {n c : Nat} {xs : List α} (h : d.R e w base ok (.slice A n c) xs) [k : Bs w' w] : d.C w' A xs.length xs := (Kd.R_reads' (bR h)).2.2
theorem laws_FnExactLongestStair.bV {α : Type} {d : Kd α} {e base : Nat} {w' w : World} {ok : Nat → Prop} {v : Value} {xs : List α} (h : Kd.V d e w base ok v xs) [k : Bs w' w] : Kd.V d e w' base ok v xs := by
 obtain ⟨k⟩ := k
 exact Kd.V_below h k.out
theorem laws_FnExactLongestStair.cV {α : Type} {d : Kd α} {e base : Nat} {ok : Nat → Prop} {w w' : World} {A : Option Addr} {n c : Nat} {xs : List α} (h : Kd.V d e w base ok (.slice A n c) xs) [k : Bs w' w] : d.C w' A xs.length xs := (Kd.V_reads' (laws_FnExactLongestStair.bV h)).2.2
theorem laws_FnExactLongestStair.newV {α : Type} {d : Kd α} {e m base : Nat} {wc w' : World} {v : Value} {xs : List α} (h : Kd.V d e w' wc.heap.size (fun k_ => wc.heap.size ≤ k_) v xs) (hb : base ≤ wc.heap.size) (hm : m ≤ wc.heap.size) (hs : wc.heap.size ≤ w'.heap.size) : ∃ lo hi, (m ≤ lo ∧ lo ≤ hi) ∧ hi ≤ w'.heap.size ∧ Kd.V d e w' base (fun k_ => lo ≤ k_ ∧ k_ < hi) v xs := ⟨wc.heap.size, w'.heap.size, ⟨hm, hs⟩, Nat.le_refl _, Kd.V_lower (Kd.V_mono (Kd.V_bound h) (fun _ hk => ⟨hk.1, hk.2⟩)) hb⟩
theorem laws_FnExactLongestStair.szS {w : World} {m : Nat} (p : Addr) (u : Value) (h : m ≤ w.heap.size) : m ≤ (w.setCell p u).heap.size := by simpa [World.setCell] using h
theorem laws_FnExactLongestStair.bQ {α : Type} {d : Kd α} {e base : Nat} {w' w : World} {ok : Nat → Prop} {v : Value} {xs : List α} (h : d.Q e w base ok v xs) [k : Bs w' w] : d.Q e w' base ok v xs := by
 obtain ⟨k⟩ := k
 exact Kd.Q_below h k.out
theorem laws_FnExactLongestStair.cQ {α : Type} {d : Kd α} {e base : Nat} {ok : Nat → Prop} {w w' : World} {A : Option Addr} {n c : Nat} {xs : List α} (h : d.Q e w base ok (.slice A n c) xs) [k : Bs w' w] : d.C w' A xs.length xs := (Kd.Q_reads' (laws_FnExactLongestStair.bQ h)).2.2
theorem laws_FnExactLongestStair.newR {α : Type} {d : Kd α} {e m base : Nat} {ok : Nat → Prop} {wc w' : World} {v : Value} {xs : List α} (h : d.R e w' wc.heap.size ok v xs) (hb : base ≤ wc.heap.size) (hm : m ≤ wc.heap.size) (hs : wc.heap.size ≤ w'.heap.size) : ∃ lo hi, (m ≤ lo ∧ lo ≤ hi) ∧ hi ≤ w'.heap.size ∧ d.R e w' base (fun k_ => lo ≤ k_ ∧ k_ < hi) v xs := ⟨wc.heap.size, w'.heap.size, ⟨hm, hs⟩, Nat.le_refl _, Kd.R_lower (Kd.R_mono (Kd.R_bound h) (fun _ hk => ⟨hk.2.1, hk.2.2.1⟩)) hb⟩
theorem laws_FnExactLongestStair.newS {α : Type} {d : Kd α} {e m base : Nat} {ok : Nat → Prop} {wc w' : World} {v : Value} {xs : List α} (h : Kd.S d e w' wc.heap.size ok v xs) (hb : base ≤ wc.heap.size) (hm : m ≤ wc.heap.size) (hs : wc.heap.size ≤ w'.heap.size) : ∃ lo hi, (m ≤ lo ∧ lo ≤ hi) ∧ hi ≤ w'.heap.size ∧ Kd.S d e w' base (fun k_ => lo ≤ k_ ∧ k_ < hi) v xs := ⟨wc.heap.size, w'.heap.size, ⟨hm, hs⟩, Nat.le_refl _, Kd.S_lower (Kd.S_mono (Kd.S_bound h) (fun _ hk => ⟨hk.2.1, hk.2.2.1⟩)) hb⟩
theorem laws_FnExactLongestStair.newQ {α : Type} {d : Kd α} {e m base : Nat} {ok : Nat → Prop} {wc w' : World} {v : Value} {xs : List α} (h : d.Q e w' wc.heap.size ok v xs) (hb : base ≤ wc.heap.size) (hm : m ≤ wc.heap.size) (hs : wc.heap.size ≤ w'.heap.size) : ∃ lo hi, (m ≤ lo ∧ lo ≤ hi) ∧ hi ≤ w'.heap.size ∧ d.Q e w' base (fun k_ => lo ≤ k_ ∧ k_ < hi) v xs := ⟨wc.heap.size, w'.heap.size, ⟨hm, hs⟩, Nat.le_refl _, Kd.Q_lower (Kd.Q_mono (Kd.Q_bound h) (fun _ hk => ⟨hk.2.1, hk.2.2.1⟩)) hb⟩
set_option maxHeartbeats 16000000 in
set_option maxRecDepth 100000 in
theorem laws_FnExactLongestStair.calls (k : Nat) (A0 : Option Addr) (c0 : Nat) (l0 : List (List Int)) (A1 : Option Addr) (c1 : Nat) (l1 : List Int) (r : Bool) (w : World) (hr0 : Kd.C (Kd.slice 3 (Kd.int .i64)) w A0 l0.length l0) (hc0 : l0.length ≤ c0) (hr1 : Kd.C (Kd.int .i64) w A1 l1.length l1) (hc1 : l1.length ≤ c1) (h : laws_FnExactLongestStair.f k l0 l1 = some r) :
  Calls Try.prog 3 #[.slice A0 l0.length c0, .slice A1 l1.length c1] w fun e w' => e = .returned (.bool r) ∧ Below w.heap.size w w' := by
 have HR0 := Aside0.mk hr0
 clear hr0
 have HC0 := Aside0.mk hc0
 clear hc0
 have HR1 := Aside0.mk hr1
 clear hr1
 have HC1 := Aside0.mk hc1
 clear hc1
 have HB := Aside0.mk (Below.refl w.heap.size w)
 have HM := Aside0.mk (Nat.le_refl w.heap.size)
 have BD := Aside0.mk True.intro
 have H := h
 clear h
 unfold laws_FnExactLongestStair.f at H
 by_cases c1 : (l1.length : Int) > 1048576
 ·rw [if_pos c1] at H
  have c1b0 : decide (1048576 < (l1.length : Int)) = true := decide_eq_true c1
  have c1b1 : decide (1048576 < l1.length) = true := decide_eq_true (by omega)
  clear c1
  obtain rfl := Option.some.inj H
  go_enter Try.func3, Try.ntmps3
  go_wp2
  go_ret
  exact ⟨by first | rfl | (simp [*]; done), bw HB.out⟩
 rw [if_neg c1] at H
 have c1b0 : decide (1048576 < (l1.length : Int)) = false := decide_eq_false c1
 have c1b1 : decide (1048576 < l1.length) = false := decide_eq_false (by omega)
 clear c1
 replace H := Option.bind_eq_some_iff.mp H
 obtain ⟨t1, A20, H⟩ := H
 have A2 := Aside0.mk A20
 clear A20
 have H' := Aside0.mk (show (if t1 < 0 then some true else ((laws_toIntSS.f k l0).bind fun t2 => ((laws_toIntS.f k l1).bind fun t3 => ((spec_LongestStair.f k t2 t3).bind fun bt4 => ((laws_toIntSS.f k l0).bind fun t6 => ((laws_toIntS.f k l1).bind fun t7 => ((impl_LongestStair.f k t6 t7).bind fun bt8 => ((laws_eqIntS.f k bt8.1 bt4.1).bind fun t10 => (if t10 = true then (if bt8.2 = bt4.2 then ((laws_toIntSS.f k l0).bind fun t11 => ((laws_eqIntSS.f k t6 t11).bind fun t12 => (if t12 = true then ((laws_toIntS.f k l1).bind fun t13 => ((laws_eqIntS.f k t7 t13).bind fun t14 => (if t14 = true then ((laws_markIntSS.f k t6 1).bind fun bt15 => ((laws_markIntS.f k t7 bt15.1).bind fun bt17 => (if bt17.1 < 0 then none else ((laws_eqIntS.f k bt8.1 bt4.1).bind fun t19 => (if t19 = true then (if bt8.2 = bt4.2 then ((laws_markIntS.f k bt8.1 1).bind fun bt20 => ((laws_heldIntS.f k bt20.2 1).bind fun t22 => (if t22 < 0 then none else (if t22 = bt20.1 then ((laws_toIntSS.f k l0).bind fun t23 => ((laws_toIntS.f k l1).bind fun t24 => ((impl_LongestStair.f k t23 t24).bind fun bt25 => ((laws_eqIntS.f k bt25.1 bt4.1).bind fun t27 => (if t27 = true then (if bt25.2 = bt4.2 then ((laws_heldIntS.f k bt20.2 1).bind fun t28 => (if t28 < 0 then none else (if t28 = bt20.1 then some true else none))) else none) else none))))) else none)))) else none) else none))))) else none))) else none))) else none) else none))))))))) = some r from H)
 clear H
 have H := H'.out
 clear H'
 by_cases c3 : t1 < 0
 ·rw [if_pos c3] at H
  have c3b0 : decide (t1 < 0) = true := decide_eq_true c3
  clear c3
  obtain rfl := Option.some.inj H
  go_enter Try.func3, Try.ntmps3
  go_wp2_with (first | ((with_reducible refine gate_callee (f := 4) rfl ?_); refine goesL_ (some 22) rfl rfl Try.func4 (by kernel_rfl) rfl #[.slice A0 l0.length c0, .int .i64 1048576] rfl (by (try simp only [mA_]); first | done | rfl | (simp only [List.length_drop, List.length_take]; rfl)) ?_; (with_reducible refine (laws_szIntSS.calls k A0 c0 l0 1048576 t1 _ ?side1 ?side2 A2.out).mono ?_); (case side1 => exact bC HR0.out HB.out); (case side2 => exact HC0.out); rintro e w1 ⟨rfl, ⟨nd1, rfl⟩⟩; refine ⟨_, rfl, ?_⟩))
  go_ret
  exact ⟨by first | rfl | (simp [*]; done), bw HB.out⟩
 rw [if_neg c3] at H
 have c3b0 : decide (t1 < 0) = false := decide_eq_false c3
 clear c3
 replace H := Option.bind_eq_some_iff.mp H
 obtain ⟨t2, A40, H⟩ := H
 have A4 := Aside0.mk A40
 clear A40
 have H' := Aside0.mk (show ((laws_toIntS.f k l1).bind fun t3 => ((spec_LongestStair.f k t2 t3).bind fun bt4 => ((laws_toIntSS.f k l0).bind fun t6 => ((laws_toIntS.f k l1).bind fun t7 => ((impl_LongestStair.f k t6 t7).bind fun bt8 => ((laws_eqIntS.f k bt8.1 bt4.1).bind fun t10 => (if t10 = true then (if bt8.2 = bt4.2 then ((laws_toIntSS.f k l0).bind fun t11 => ((laws_eqIntSS.f k t6 t11).bind fun t12 => (if t12 = true then ((laws_toIntS.f k l1).bind fun t13 => ((laws_eqIntS.f k t7 t13).bind fun t14 => (if t14 = true then ((laws_markIntSS.f k t6 1).bind fun bt15 => ((laws_markIntS.f k t7 bt15.1).bind fun bt17 => (if bt17.1 < 0 then none else ((laws_eqIntS.f k bt8.1 bt4.1).bind fun t19 => (if t19 = true then (if bt8.2 = bt4.2 then ((laws_markIntS.f k bt8.1 1).bind fun bt20 => ((laws_heldIntS.f k bt20.2 1).bind fun t22 => (if t22 < 0 then none else (if t22 = bt20.1 then ((laws_toIntSS.f k l0).bind fun t23 => ((laws_toIntS.f k l1).bind fun t24 => ((impl_LongestStair.f k t23 t24).bind fun bt25 => ((laws_eqIntS.f k bt25.1 bt4.1).bind fun t27 => (if t27 = true then (if bt25.2 = bt4.2 then ((laws_heldIntS.f k bt20.2 1).bind fun t28 => (if t28 < 0 then none else (if t28 = bt20.1 then some true else none))) else none) else none))))) else none)))) else none) else none))))) else none))) else none))) else none) else none))))))) = some r from H)
 clear H
 have H := H'.out
 clear H'
 replace H := Option.bind_eq_some_iff.mp H
 obtain ⟨t3, A50, H⟩ := H
 have A5 := Aside0.mk A50
 clear A50
 have H' := Aside0.mk (show ((spec_LongestStair.f k t2 t3).bind fun bt4 => ((laws_toIntSS.f k l0).bind fun t6 => ((laws_toIntS.f k l1).bind fun t7 => ((impl_LongestStair.f k t6 t7).bind fun bt8 => ((laws_eqIntS.f k bt8.1 bt4.1).bind fun t10 => (if t10 = true then (if bt8.2 = bt4.2 then ((laws_toIntSS.f k l0).bind fun t11 => ((laws_eqIntSS.f k t6 t11).bind fun t12 => (if t12 = true then ((laws_toIntS.f k l1).bind fun t13 => ((laws_eqIntS.f k t7 t13).bind fun t14 => (if t14 = true then ((laws_markIntSS.f k t6 1).bind fun bt15 => ((laws_markIntS.f k t7 bt15.1).bind fun bt17 => (if bt17.1 < 0 then none else ((laws_eqIntS.f k bt8.1 bt4.1).bind fun t19 => (if t19 = true then (if bt8.2 = bt4.2 then ((laws_markIntS.f k bt8.1 1).bind fun bt20 => ((laws_heldIntS.f k bt20.2 1).bind fun t22 => (if t22 < 0 then none else (if t22 = bt20.1 then ((laws_toIntSS.f k l0).bind fun t23 => ((laws_toIntS.f k l1).bind fun t24 => ((impl_LongestStair.f k t23 t24).bind fun bt25 => ((laws_eqIntS.f k bt25.1 bt4.1).bind fun t27 => (if t27 = true then (if bt25.2 = bt4.2 then ((laws_heldIntS.f k bt20.2 1).bind fun t28 => (if t28 < 0 then none else (if t28 = bt20.1 then some true else none))) else none) else none))))) else none)))) else none) else none))))) else none))) else none))) else none) else none)))))) = some r from H)
 clear H
 have H := H'.out
 clear H'
 replace H := Option.bind_eq_some_iff.mp H
 obtain ⟨⟨t4, t5⟩, A60, H⟩ := H
 have A6 := Aside0.mk A60
 clear A60
 have H' := Aside0.mk (show ((laws_toIntSS.f k l0).bind fun t6 => ((laws_toIntS.f k l1).bind fun t7 => ((impl_LongestStair.f k t6 t7).bind fun bt8 => ((laws_eqIntS.f k bt8.1 t4).bind fun t10 => (if t10 = true then (if bt8.2 = t5 then ((laws_toIntSS.f k l0).bind fun t11 => ((laws_eqIntSS.f k t6 t11).bind fun t12 => (if t12 = true then ((laws_toIntS.f k l1).bind fun t13 => ((laws_eqIntS.f k t7 t13).bind fun t14 => (if t14 = true then ((laws_markIntSS.f k t6 1).bind fun bt15 => ((laws_markIntS.f k t7 bt15.1).bind fun bt17 => (if bt17.1 < 0 then none else ((laws_eqIntS.f k bt8.1 t4).bind fun t19 => (if t19 = true then (if bt8.2 = t5 then ((laws_markIntS.f k bt8.1 1).bind fun bt20 => ((laws_heldIntS.f k bt20.2 1).bind fun t22 => (if t22 < 0 then none else (if t22 = bt20.1 then ((laws_toIntSS.f k l0).bind fun t23 => ((laws_toIntS.f k l1).bind fun t24 => ((impl_LongestStair.f k t23 t24).bind fun bt25 => ((laws_eqIntS.f k bt25.1 t4).bind fun t27 => (if t27 = true then (if bt25.2 = t5 then ((laws_heldIntS.f k bt20.2 1).bind fun t28 => (if t28 < 0 then none else (if t28 = bt20.1 then some true else none))) else none) else none))))) else none)))) else none) else none))))) else none))) else none))) else none) else none))))) = some r from H)
 clear H
 have H := H'.out
 clear H'
 replace H := Option.bind_eq_some_iff.mp H
 obtain ⟨t6, A70, H⟩ := H
 have A7 := Aside0.mk A70
 clear A70
 have H' := Aside0.mk (show ((laws_toIntS.f k l1).bind fun t7 => ((impl_LongestStair.f k t6 t7).bind fun bt8 => ((laws_eqIntS.f k bt8.1 t4).bind fun t10 => (if t10 = true then (if bt8.2 = t5 then ((laws_toIntSS.f k l0).bind fun t11 => ((laws_eqIntSS.f k t6 t11).bind fun t12 => (if t12 = true then ((laws_toIntS.f k l1).bind fun t13 => ((laws_eqIntS.f k t7 t13).bind fun t14 => (if t14 = true then ((laws_markIntSS.f k t6 1).bind fun bt15 => ((laws_markIntS.f k t7 bt15.1).bind fun bt17 => (if bt17.1 < 0 then none else ((laws_eqIntS.f k bt8.1 t4).bind fun t19 => (if t19 = true then (if bt8.2 = t5 then ((laws_markIntS.f k bt8.1 1).bind fun bt20 => ((laws_heldIntS.f k bt20.2 1).bind fun t22 => (if t22 < 0 then none else (if t22 = bt20.1 then ((laws_toIntSS.f k l0).bind fun t23 => ((laws_toIntS.f k l1).bind fun t24 => ((impl_LongestStair.f k t23 t24).bind fun bt25 => ((laws_eqIntS.f k bt25.1 t4).bind fun t27 => (if t27 = true then (if bt25.2 = t5 then ((laws_heldIntS.f k bt20.2 1).bind fun t28 => (if t28 < 0 then none else (if t28 = bt20.1 then some true else none))) else none) else none))))) else none)))) else none) else none))))) else none))) else none))) else none) else none)))) = some r from H)
 clear H
 have H := H'.out
 clear H'
 replace H := Option.bind_eq_some_iff.mp H
 obtain ⟨t7, A80, H⟩ := H
 have A8 := Aside0.mk A80
 clear A80
 have H' := Aside0.mk (show ((impl_LongestStair.f k t6 t7).bind fun bt8 => ((laws_eqIntS.f k bt8.1 t4).bind fun t10 => (if t10 = true then (if bt8.2 = t5 then ((laws_toIntSS.f k l0).bind fun t11 => ((laws_eqIntSS.f k t6 t11).bind fun t12 => (if t12 = true then ((laws_toIntS.f k l1).bind fun t13 => ((laws_eqIntS.f k t7 t13).bind fun t14 => (if t14 = true then ((laws_markIntSS.f k t6 1).bind fun bt15 => ((laws_markIntS.f k t7 bt15.1).bind fun bt17 => (if bt17.1 < 0 then none else ((laws_eqIntS.f k bt8.1 t4).bind fun t19 => (if t19 = true then (if bt8.2 = t5 then ((laws_markIntS.f k bt8.1 1).bind fun bt20 => ((laws_heldIntS.f k bt20.2 1).bind fun t22 => (if t22 < 0 then none else (if t22 = bt20.1 then ((laws_toIntSS.f k l0).bind fun t23 => ((laws_toIntS.f k l1).bind fun t24 => ((impl_LongestStair.f k t23 t24).bind fun bt25 => ((laws_eqIntS.f k bt25.1 t4).bind fun t27 => (if t27 = true then (if bt25.2 = t5 then ((laws_heldIntS.f k bt20.2 1).bind fun t28 => (if t28 < 0 then none else (if t28 = bt20.1 then some true else none))) else none) else none))))) else none)))) else none) else none))))) else none))) else none))) else none) else none))) = some r from H)
 clear H
 have H := H'.out
 clear H'
 replace H := Option.bind_eq_some_iff.mp H
 obtain ⟨⟨t8, t9⟩, A90, H⟩ := H
 have A9 := Aside0.mk A90
 clear A90
 have H' := Aside0.mk (show ((laws_eqIntS.f k t8 t4).bind fun t10 => (if t10 = true then (if t9 = t5 then ((laws_toIntSS.f k l0).bind fun t11 => ((laws_eqIntSS.f k t6 t11).bind fun t12 => (if t12 = true then ((laws_toIntS.f k l1).bind fun t13 => ((laws_eqIntS.f k t7 t13).bind fun t14 => (if t14 = true then ((laws_markIntSS.f k t6 1).bind fun bt15 => ((laws_markIntS.f k t7 bt15.1).bind fun bt17 => (if bt17.1 < 0 then none else ((laws_eqIntS.f k t8 t4).bind fun t19 => (if t19 = true then (if t9 = t5 then ((laws_markIntS.f k t8 1).bind fun bt20 => ((laws_heldIntS.f k bt20.2 1).bind fun t22 => (if t22 < 0 then none else (if t22 = bt20.1 then ((laws_toIntSS.f k l0).bind fun t23 => ((laws_toIntS.f k l1).bind fun t24 => ((impl_LongestStair.f k t23 t24).bind fun bt25 => ((laws_eqIntS.f k bt25.1 t4).bind fun t27 => (if t27 = true then (if bt25.2 = t5 then ((laws_heldIntS.f k bt20.2 1).bind fun t28 => (if t28 < 0 then none else (if t28 = bt20.1 then some true else none))) else none) else none))))) else none)))) else none) else none))))) else none))) else none))) else none) else none)) = some r from H)
 clear H
 have H := H'.out
 clear H'
 replace H := Option.bind_eq_some_iff.mp H
 obtain ⟨t10, A100, H⟩ := H
 have A10 := Aside0.mk A100
 clear A100
 have H' := Aside0.mk (show (if t10 = true then (if t9 = t5 then ((laws_toIntSS.f k l0).bind fun t11 => ((laws_eqIntSS.f k t6 t11).bind fun t12 => (if t12 = true then ((laws_toIntS.f k l1).bind fun t13 => ((laws_eqIntS.f k t7 t13).bind fun t14 => (if t14 = true then ((laws_markIntSS.f k t6 1).bind fun bt15 => ((laws_markIntS.f k t7 bt15.1).bind fun bt17 => (if bt17.1 < 0 then none else ((laws_eqIntS.f k t8 t4).bind fun t19 => (if t19 = true then (if t9 = t5 then ((laws_markIntS.f k t8 1).bind fun bt20 => ((laws_heldIntS.f k bt20.2 1).bind fun t22 => (if t22 < 0 then none else (if t22 = bt20.1 then ((laws_toIntSS.f k l0).bind fun t23 => ((laws_toIntS.f k l1).bind fun t24 => ((impl_LongestStair.f k t23 t24).bind fun bt25 => ((laws_eqIntS.f k bt25.1 t4).bind fun t27 => (if t27 = true then (if bt25.2 = t5 then ((laws_heldIntS.f k bt20.2 1).bind fun t28 => (if t28 < 0 then none else (if t28 = bt20.1 then some true else none))) else none) else none))))) else none)))) else none) else none))))) else none))) else none))) else none) else none) = some r from H)
 clear H
 have H := H'.out
 clear H'
 by_cases c11 : t10 = true
 case neg =>
  rw [if_neg c11] at H
  exact absurd H (by simp)
 rw [if_pos c11] at H
 subst c11
 by_cases c12 : t9 = t5
 case neg =>
  rw [if_neg c12] at H
  exact absurd H (by simp)
 rw [if_pos c12] at H
 have c12b0 : (t9 == t5) = true := beq_iff_eq.mpr c12
 have c12b1 : (t9 != t5) = false := bne_eq_false_iff_eq.mpr c12
 clear c12
 replace H := Option.bind_eq_some_iff.mp H
 obtain ⟨t11, A130, H⟩ := H
 have A13 := Aside0.mk A130
 clear A130
 have H' := Aside0.mk (show ((laws_eqIntSS.f k t6 t11).bind fun t12 => (if t12 = true then ((laws_toIntS.f k l1).bind fun t13 => ((laws_eqIntS.f k t7 t13).bind fun t14 => (if t14 = true then ((laws_markIntSS.f k t6 1).bind fun bt15 => ((laws_markIntS.f k t7 bt15.1).bind fun bt17 => (if bt17.1 < 0 then none else ((laws_eqIntS.f k t8 t4).bind fun t19 => (if t19 = true then (if t9 = t5 then ((laws_markIntS.f k t8 1).bind fun bt20 => ((laws_heldIntS.f k bt20.2 1).bind fun t22 => (if t22 < 0 then none else (if t22 = bt20.1 then ((laws_toIntSS.f k l0).bind fun t23 => ((laws_toIntS.f k l1).bind fun t24 => ((impl_LongestStair.f k t23 t24).bind fun bt25 => ((laws_eqIntS.f k bt25.1 t4).bind fun t27 => (if t27 = true then (if bt25.2 = t5 then ((laws_heldIntS.f k bt20.2 1).bind fun t28 => (if t28 < 0 then none else (if t28 = bt20.1 then some true else none))) else none) else none))))) else none)))) else none) else none))))) else none))) else none)) = some r from H)
 clear H
 have H := H'.out
 clear H'
 replace H := Option.bind_eq_some_iff.mp H
 obtain ⟨t12, A140, H⟩ := H
 have A14 := Aside0.mk A140
 clear A140
 have H' := Aside0.mk (show (if t12 = true then ((laws_toIntS.f k l1).bind fun t13 => ((laws_eqIntS.f k t7 t13).bind fun t14 => (if t14 = true then ((laws_markIntSS.f k t6 1).bind fun bt15 => ((laws_markIntS.f k t7 bt15.1).bind fun bt17 => (if bt17.1 < 0 then none else ((laws_eqIntS.f k t8 t4).bind fun t19 => (if t19 = true then (if t9 = t5 then ((laws_markIntS.f k t8 1).bind fun bt20 => ((laws_heldIntS.f k bt20.2 1).bind fun t22 => (if t22 < 0 then none else (if t22 = bt20.1 then ((laws_toIntSS.f k l0).bind fun t23 => ((laws_toIntS.f k l1).bind fun t24 => ((impl_LongestStair.f k t23 t24).bind fun bt25 => ((laws_eqIntS.f k bt25.1 t4).bind fun t27 => (if t27 = true then (if bt25.2 = t5 then ((laws_heldIntS.f k bt20.2 1).bind fun t28 => (if t28 < 0 then none else (if t28 = bt20.1 then some true else none))) else none) else none))))) else none)))) else none) else none))))) else none))) else none) = some r from H)
 clear H
 have H := H'.out
 clear H'
 by_cases c15 : t12 = true
 case neg =>
  rw [if_neg c15] at H
  exact absurd H (by simp)
 rw [if_pos c15] at H
 subst c15
 replace H := Option.bind_eq_some_iff.mp H
 obtain ⟨t13, A160, H⟩ := H
 have A16 := Aside0.mk A160
 clear A160
 have H' := Aside0.mk (show ((laws_eqIntS.f k t7 t13).bind fun t14 => (if t14 = true then ((laws_markIntSS.f k t6 1).bind fun bt15 => ((laws_markIntS.f k t7 bt15.1).bind fun bt17 => (if bt17.1 < 0 then none else ((laws_eqIntS.f k t8 t4).bind fun t19 => (if t19 = true then (if t9 = t5 then ((laws_markIntS.f k t8 1).bind fun bt20 => ((laws_heldIntS.f k bt20.2 1).bind fun t22 => (if t22 < 0 then none else (if t22 = bt20.1 then ((laws_toIntSS.f k l0).bind fun t23 => ((laws_toIntS.f k l1).bind fun t24 => ((impl_LongestStair.f k t23 t24).bind fun bt25 => ((laws_eqIntS.f k bt25.1 t4).bind fun t27 => (if t27 = true then (if bt25.2 = t5 then ((laws_heldIntS.f k bt20.2 1).bind fun t28 => (if t28 < 0 then none else (if t28 = bt20.1 then some true else none))) else none) else none))))) else none)))) else none) else none))))) else none)) = some r from H)
 clear H
 have H := H'.out
 clear H'
 replace H := Option.bind_eq_some_iff.mp H
 obtain ⟨t14, A170, H⟩ := H
 have A17 := Aside0.mk A170
 clear A170
 have H' := Aside0.mk (show (if t14 = true then ((laws_markIntSS.f k t6 1).bind fun bt15 => ((laws_markIntS.f k t7 bt15.1).bind fun bt17 => (if bt17.1 < 0 then none else ((laws_eqIntS.f k t8 t4).bind fun t19 => (if t19 = true then (if t9 = t5 then ((laws_markIntS.f k t8 1).bind fun bt20 => ((laws_heldIntS.f k bt20.2 1).bind fun t22 => (if t22 < 0 then none else (if t22 = bt20.1 then ((laws_toIntSS.f k l0).bind fun t23 => ((laws_toIntS.f k l1).bind fun t24 => ((impl_LongestStair.f k t23 t24).bind fun bt25 => ((laws_eqIntS.f k bt25.1 t4).bind fun t27 => (if t27 = true then (if bt25.2 = t5 then ((laws_heldIntS.f k bt20.2 1).bind fun t28 => (if t28 < 0 then none else (if t28 = bt20.1 then some true else none))) else none) else none))))) else none)))) else none) else none))))) else none) = some r from H)
 clear H
 have H := H'.out
 clear H'
 by_cases c18 : t14 = true
 case neg =>
  rw [if_neg c18] at H
  exact absurd H (by simp)
 rw [if_pos c18] at H
 subst c18
 replace H := Option.bind_eq_some_iff.mp H
 obtain ⟨⟨t15, t16⟩, A190, H⟩ := H
 have A19 := Aside0.mk A190
 clear A190
 have H' := Aside0.mk (show ((laws_markIntS.f k t7 t15).bind fun bt17 => (if bt17.1 < 0 then none else ((laws_eqIntS.f k t8 t4).bind fun t19 => (if t19 = true then (if t9 = t5 then ((laws_markIntS.f k t8 1).bind fun bt20 => ((laws_heldIntS.f k bt20.2 1).bind fun t22 => (if t22 < 0 then none else (if t22 = bt20.1 then ((laws_toIntSS.f k l0).bind fun t23 => ((laws_toIntS.f k l1).bind fun t24 => ((impl_LongestStair.f k t23 t24).bind fun bt25 => ((laws_eqIntS.f k bt25.1 t4).bind fun t27 => (if t27 = true then (if bt25.2 = t5 then ((laws_heldIntS.f k bt20.2 1).bind fun t28 => (if t28 < 0 then none else (if t28 = bt20.1 then some true else none))) else none) else none))))) else none)))) else none) else none)))) = some r from H)
 clear H
 have H := H'.out
 clear H'
 replace H := Option.bind_eq_some_iff.mp H
 obtain ⟨⟨t17, t18⟩, A200, H⟩ := H
 have A20 := Aside0.mk A200
 clear A200
 have H' := Aside0.mk (show (if t17 < 0 then none else ((laws_eqIntS.f k t8 t4).bind fun t19 => (if t19 = true then (if t9 = t5 then ((laws_markIntS.f k t8 1).bind fun bt20 => ((laws_heldIntS.f k bt20.2 1).bind fun t22 => (if t22 < 0 then none else (if t22 = bt20.1 then ((laws_toIntSS.f k l0).bind fun t23 => ((laws_toIntS.f k l1).bind fun t24 => ((impl_LongestStair.f k t23 t24).bind fun bt25 => ((laws_eqIntS.f k bt25.1 t4).bind fun t27 => (if t27 = true then (if bt25.2 = t5 then ((laws_heldIntS.f k bt20.2 1).bind fun t28 => (if t28 < 0 then none else (if t28 = bt20.1 then some true else none))) else none) else none))))) else none)))) else none) else none))) = some r from H)
 clear H
 have H := H'.out
 clear H'
 by_cases c21 : t17 < 0
 ·rw [if_pos c21] at H
  exact absurd H (by simp)
 rw [if_neg c21] at H
 have c21b0 : decide (t17 < 0) = false := decide_eq_false c21
 clear c21
 replace H := Option.bind_eq_some_iff.mp H
 obtain ⟨t19, A220, H⟩ := H
 have A22 := Aside0.mk A220
 clear A220
 have H' := Aside0.mk (show (if t19 = true then (if t9 = t5 then ((laws_markIntS.f k t8 1).bind fun bt20 => ((laws_heldIntS.f k bt20.2 1).bind fun t22 => (if t22 < 0 then none else (if t22 = bt20.1 then ((laws_toIntSS.f k l0).bind fun t23 => ((laws_toIntS.f k l1).bind fun t24 => ((impl_LongestStair.f k t23 t24).bind fun bt25 => ((laws_eqIntS.f k bt25.1 t4).bind fun t27 => (if t27 = true then (if bt25.2 = t5 then ((laws_heldIntS.f k bt20.2 1).bind fun t28 => (if t28 < 0 then none else (if t28 = bt20.1 then some true else none))) else none) else none))))) else none)))) else none) else none) = some r from H)
 clear H
 have H := H'.out
 clear H'
 by_cases c23 : t19 = true
 case neg =>
  rw [if_neg c23] at H
  exact absurd H (by simp)
 rw [if_pos c23] at H
 subst c23
 by_cases c24 : t9 = t5
 case neg =>
  rw [if_neg c24] at H
  exact absurd H (by simp)
 rw [if_pos c24] at H
 have c24b0 : (t9 == t5) = true := beq_iff_eq.mpr c24
 have c24b1 : (t9 != t5) = false := bne_eq_false_iff_eq.mpr c24
 clear c24
 replace H := Option.bind_eq_some_iff.mp H
 obtain ⟨⟨t20, t21⟩, A250, H⟩ := H
 have A25 := Aside0.mk A250
 clear A250
 have H' := Aside0.mk (show ((laws_heldIntS.f k t21 1).bind fun t22 => (if t22 < 0 then none else (if t22 = t20 then ((laws_toIntSS.f k l0).bind fun t23 => ((laws_toIntS.f k l1).bind fun t24 => ((impl_LongestStair.f k t23 t24).bind fun bt25 => ((laws_eqIntS.f k bt25.1 t4).bind fun t27 => (if t27 = true then (if bt25.2 = t5 then ((laws_heldIntS.f k t21 1).bind fun t28 => (if t28 < 0 then none else (if t28 = t20 then some true else none))) else none) else none))))) else none))) = some r from H)
 clear H
 have H := H'.out
 clear H'
 replace H := Option.bind_eq_some_iff.mp H
 obtain ⟨t22, A260, H⟩ := H
 have A26 := Aside0.mk A260
 clear A260
 have H' := Aside0.mk (show (if t22 < 0 then none else (if t22 = t20 then ((laws_toIntSS.f k l0).bind fun t23 => ((laws_toIntS.f k l1).bind fun t24 => ((impl_LongestStair.f k t23 t24).bind fun bt25 => ((laws_eqIntS.f k bt25.1 t4).bind fun t27 => (if t27 = true then (if bt25.2 = t5 then ((laws_heldIntS.f k t21 1).bind fun t28 => (if t28 < 0 then none else (if t28 = t20 then some true else none))) else none) else none))))) else none)) = some r from H)
 clear H
 have H := H'.out
 clear H'
 by_cases c27 : t22 < 0
 ·rw [if_pos c27] at H
  exact absurd H (by simp)
 rw [if_neg c27] at H
 have c27b0 : decide (t22 < 0) = false := decide_eq_false c27
 clear c27
 by_cases c28 : t22 = t20
 case neg =>
  rw [if_neg c28] at H
  exact absurd H (by simp)
 rw [if_pos c28] at H
 have c28b0 : (t22 == t20) = true := beq_iff_eq.mpr c28
 have c28b1 : (t22 != t20) = false := bne_eq_false_iff_eq.mpr c28
 clear c28
 replace H := Option.bind_eq_some_iff.mp H
 obtain ⟨t23, A290, H⟩ := H
 have A29 := Aside0.mk A290
 clear A290
 have H' := Aside0.mk (show ((laws_toIntS.f k l1).bind fun t24 => ((impl_LongestStair.f k t23 t24).bind fun bt25 => ((laws_eqIntS.f k bt25.1 t4).bind fun t27 => (if t27 = true then (if bt25.2 = t5 then ((laws_heldIntS.f k t21 1).bind fun t28 => (if t28 < 0 then none else (if t28 = t20 then some true else none))) else none) else none)))) = some r from H)
 clear H
 have H := H'.out
 clear H'
 replace H := Option.bind_eq_some_iff.mp H
 obtain ⟨t24, A300, H⟩ := H
 have A30 := Aside0.mk A300
 clear A300
 have H' := Aside0.mk (show ((impl_LongestStair.f k t23 t24).bind fun bt25 => ((laws_eqIntS.f k bt25.1 t4).bind fun t27 => (if t27 = true then (if bt25.2 = t5 then ((laws_heldIntS.f k t21 1).bind fun t28 => (if t28 < 0 then none else (if t28 = t20 then some true else none))) else none) else none))) = some r from H)
 clear H
 have H := H'.out
 clear H'
 replace H := Option.bind_eq_some_iff.mp H
 obtain ⟨⟨t25, t26⟩, A310, H⟩ := H
 have A31 := Aside0.mk A310
 clear A310
 have H' := Aside0.mk (show ((laws_eqIntS.f k t25 t4).bind fun t27 => (if t27 = true then (if t26 = t5 then ((laws_heldIntS.f k t21 1).bind fun t28 => (if t28 < 0 then none else (if t28 = t20 then some true else none))) else none) else none)) = some r from H)
 clear H
 have H := H'.out
 clear H'
 replace H := Option.bind_eq_some_iff.mp H
 obtain ⟨t27, A320, H⟩ := H
 have A32 := Aside0.mk A320
 clear A320
 have H' := Aside0.mk (show (if t27 = true then (if t26 = t5 then ((laws_heldIntS.f k t21 1).bind fun t28 => (if t28 < 0 then none else (if t28 = t20 then some true else none))) else none) else none) = some r from H)
 clear H
 have H := H'.out
 clear H'
 by_cases c33 : t27 = true
 case neg =>
  rw [if_neg c33] at H
  exact absurd H (by simp)
 rw [if_pos c33] at H
 subst c33
 by_cases c34 : t26 = t5
 case neg =>
  rw [if_neg c34] at H
  exact absurd H (by simp)
 rw [if_pos c34] at H
 have c34b0 : (t26 == t5) = true := beq_iff_eq.mpr c34
 have c34b1 : (t26 != t5) = false := bne_eq_false_iff_eq.mpr c34
 clear c34
 replace H := Option.bind_eq_some_iff.mp H
 obtain ⟨t28, A350, H⟩ := H
 have A35 := Aside0.mk A350
 clear A350
 have H' := Aside0.mk (show (if t28 < 0 then none else (if t28 = t20 then some true else none)) = some r from H)
 clear H
 have H := H'.out
 clear H'
 by_cases c36 : t28 < 0
 ·rw [if_pos c36] at H
  exact absurd H (by simp)
 rw [if_neg c36] at H
 have c36b0 : decide (t28 < 0) = false := decide_eq_false c36
 clear c36
 by_cases c37 : t28 = t20
 case neg =>
  rw [if_neg c37] at H
  exact absurd H (by simp)
 rw [if_pos c37] at H
 have c37b0 : (t28 == t20) = true := beq_iff_eq.mpr c37
 have c37b1 : (t28 != t20) = false := bne_eq_false_iff_eq.mpr c37
 clear c37
 obtain rfl := Option.some.inj H
 clear H
 go_enter Try.func3, Try.ntmps3
 go_wp2_with (first | ((with_reducible refine gate_callee (f := 4) rfl ?_); refine goesL_ (some 22) rfl rfl Try.func4 (by kernel_rfl) rfl #[.slice A0 l0.length c0, .int .i64 1048576] rfl (by (try simp only [mA_]); first | done | rfl | (simp only [List.length_drop, List.length_take]; rfl)) ?_; (with_reducible refine (laws_szIntSS.calls k A0 c0 l0 1048576 t1 _ ?side1 ?side2 A2.out).mono ?_); (case side1 => exact bC HR0.out HB.out); (case side2 => exact HC0.out); rintro e w1 ⟨rfl, ⟨nd1, rfl⟩⟩; refine ⟨_, rfl, ?_⟩) | ((with_reducible refine gate_callee (f := 6) rfl ?_); refine goesL_ (some 27) rfl rfl Try.func6 (by kernel_rfl) rfl #[.slice A0 l0.length c0] rfl (by (try simp only [mA_]); first | done | rfl | (simp only [List.length_drop, List.length_take]; rfl)) ?_; (with_reducible refine (laws_toIntSS.calls k A0 c0 l0 t2 _ ?side1 ?side2 A4.out).mono ?_); (case side1 => exact bC HR0.out HB.out); (case side2 => exact HC0.out); rintro e w2 ⟨v2_0, rfl, ho0, hb⟩; refine ⟨_, rfl, ?_⟩; have hbb := Aside0.mk hb; clear hb; obtain ⟨lo0, hi0, bd, hm, ho⟩ := laws_FnExactLongestStair.newS (base := w.heap.size) ho0 (below_size (bw HB.out)) (laws_FnExactLongestStair.sz HM.out) hbb.out.size; have HO0 := Aside0.mk ho; replace HM := Aside0.mk hm; have BD2 := Aside0.mk (And.intro bd BD.out); clear BD; have BD := BD2; clear BD2; clear ho ho0 bd hm; obtain ⟨Ao0, co0, eo0⟩ := Kd.S_slice HO0.out; subst eo0; have n0_ := Aside0.mk (below_step (bw HB.out) hbb.out); replace HB := n0_; clear n0_ hbb) | ((with_reducible refine gate_callee (f := 7) rfl ?_); refine goesL_ (some 29) rfl rfl Try.func7 (by kernel_rfl) rfl #[.slice A1 l1.length c1] rfl (by (try simp only [mA_]); first | done | rfl | (simp only [List.length_drop, List.length_take]; rfl)) ?_; (with_reducible refine (laws_toIntS.calls k A1 c1 l1 t3 _ ?side1 ?side2 A5.out).mono ?_); (case side1 => exact bC HR1.out HB.out); (case side2 => exact HC1.out); rintro e w3 ⟨v3_0, rfl, ho0, hb⟩; refine ⟨_, rfl, ?_⟩; have hbb := Aside0.mk hb; clear hb; have n0 := Aside0.mk (Kd.S_below (laws_FnExactLongestStair.bS HO0.out) hbb.out); replace HO0 := n0; clear n0; obtain ⟨lo1, hi1, bd, hm, ho⟩ := laws_FnExactLongestStair.newR (base := w.heap.size) ho0 (below_size (bw HB.out)) (laws_FnExactLongestStair.sz HM.out) hbb.out.size; have HO1 := Aside0.mk ho; replace HM := Aside0.mk hm; have BD2 := Aside0.mk (And.intro bd BD.out); clear BD; have BD := BD2; clear BD2; clear ho ho0 bd hm; obtain ⟨Ao1, co1, eo1⟩ := Kd.R_slice HO1.out; subst eo1; have n0_ := Aside0.mk (below_step (bw HB.out) hbb.out); replace HB := n0_; clear n0_ hbb) | ((with_reducible refine gate_callee (f := 5) rfl ?_); refine goesL_ (some 30) rfl rfl Try.func5 (by kernel_rfl) rfl #[.slice Ao0 t2.length co0, .slice Ao1 t3.length co1] rfl (by (try simp only [mA_]); first | done | rfl | (simp only [List.length_drop, List.length_take]; rfl)) ?_; (with_reducible refine (spec_LongestStair.calls k _ _ t2 _ _ t3 t4 t5 _ ?side1 ?side2 ?side3 ?side4 A6.out).mono ?_); (case side1 => exact laws_FnExactLongestStair.cS HO0.out); (case side2 => exact (Kd.S_reads' HO0.out).2.1); (case side3 => exact laws_FnExactLongestStair.cR HO1.out); (case side4 => exact (Kd.R_reads' HO1.out).2.1); rintro e w4 ⟨v4_0, rfl, ho0, hb⟩; refine ⟨_, rfl, ?_⟩; have hbb := Aside0.mk hb; clear hb; obtain ⟨lo2, hi2, bd, hm, ho⟩ := laws_FnExactLongestStair.newV (base := w.heap.size) ho0 (below_size (bw HB.out)) (laws_FnExactLongestStair.sz HM.out) hbb.out.size; have HO2 := Aside0.mk ho; replace HM := Aside0.mk hm; have BD2 := Aside0.mk (And.intro bd BD.out); clear BD; have BD := BD2; clear BD2; clear ho ho0 bd hm; obtain ⟨Ao2, co2, eo2⟩ := Kd.V_slice HO2.out; subst eo2; have n0_ := Aside0.mk (below_step (bw HB.out) hbb.out); replace HB := n0_; clear n0_ hbb) | ((with_reducible refine gate_callee (f := 6) rfl ?_); refine goesL_ (some 34) rfl rfl Try.func6 (by kernel_rfl) rfl #[.slice A0 l0.length c0] rfl (by (try simp only [mA_]); first | done | rfl | (simp only [List.length_drop, List.length_take]; rfl)) ?_; (with_reducible refine (laws_toIntSS.calls k A0 c0 l0 t6 _ ?side1 ?side2 A7.out).mono ?_); (case side1 => exact bC HR0.out HB.out); (case side2 => exact HC0.out); rintro e w5 ⟨v5_0, rfl, ho0, hb⟩; refine ⟨_, rfl, ?_⟩; have hbb := Aside0.mk hb; clear hb; have n2 := Aside0.mk (Kd.V_below (laws_FnExactLongestStair.bV HO2.out) hbb.out); replace HO2 := n2; clear n2; obtain ⟨lo3, hi3, bd, hm, ho⟩ := laws_FnExactLongestStair.newS (base := w.heap.size) ho0 (below_size (bw HB.out)) (laws_FnExactLongestStair.sz HM.out) hbb.out.size; have HO3 := Aside0.mk ho; replace HM := Aside0.mk hm; have BD2 := Aside0.mk (And.intro bd BD.out); clear BD; have BD := BD2; clear BD2; clear ho ho0 bd hm; obtain ⟨Ao3, co3, eo3⟩ := Kd.S_slice HO3.out; subst eo3; have n0_ := Aside0.mk (below_step (bw HB.out) hbb.out); replace HB := n0_; clear n0_ hbb) | ((with_reducible refine gate_callee (f := 7) rfl ?_); refine goesL_ (some 36) rfl rfl Try.func7 (by kernel_rfl) rfl #[.slice A1 l1.length c1] rfl (by (try simp only [mA_]); first | done | rfl | (simp only [List.length_drop, List.length_take]; rfl)) ?_; (with_reducible refine (laws_toIntS.calls k A1 c1 l1 t7 _ ?side1 ?side2 A8.out).mono ?_); (case side1 => exact bC HR1.out HB.out); (case side2 => exact HC1.out); rintro e w6 ⟨v6_0, rfl, ho0, hb⟩; refine ⟨_, rfl, ?_⟩; have hbb := Aside0.mk hb; clear hb; have n2 := Aside0.mk (Kd.V_below (laws_FnExactLongestStair.bV HO2.out) hbb.out); replace HO2 := n2; clear n2; have n3 := Aside0.mk (Kd.S_below (laws_FnExactLongestStair.bS HO3.out) hbb.out); replace HO3 := n3; clear n3; obtain ⟨lo4, hi4, bd, hm, ho⟩ := laws_FnExactLongestStair.newR (base := w.heap.size) ho0 (below_size (bw HB.out)) (laws_FnExactLongestStair.sz HM.out) hbb.out.size; have HO4 := Aside0.mk ho; replace HM := Aside0.mk hm; have BD2 := Aside0.mk (And.intro bd BD.out); clear BD; have BD := BD2; clear BD2; clear ho ho0 bd hm; obtain ⟨Ao4, co4, eo4⟩ := Kd.R_slice HO4.out; subst eo4; have n0_ := Aside0.mk (below_step (bw HB.out) hbb.out); replace HB := n0_; clear n0_ hbb) | ((with_reducible refine gate_callee (f := 8) rfl ?_); refine goesL_ (some 40) rfl rfl Try.func8 (by kernel_rfl) rfl #[.slice Ao3 t6.length co3, .slice Ao4 t7.length co4] rfl (by (try simp only [mA_]); first | done | rfl | (simp only [List.length_drop, List.length_take]; rfl)) ?_; (with_reducible refine (impl_LongestStair.calls k _ _ t6 _ _ t7 t8 t9 _ ?side1 ?side2 ?side3 ?side4 A9.out).mono ?_); (case side1 => exact laws_FnExactLongestStair.cS HO3.out); (case side2 => exact (Kd.S_reads' HO3.out).2.1); (case side3 => exact laws_FnExactLongestStair.cR HO4.out); (case side4 => exact (Kd.R_reads' HO4.out).2.1); rintro e w7 ⟨v7_0, rfl, ho0, hb⟩; refine ⟨_, rfl, ?_⟩; have hbb := Aside0.mk hb; clear hb; have n2 := Aside0.mk (Kd.V_below (laws_FnExactLongestStair.bV HO2.out) hbb.out); replace HO2 := n2; clear n2; have n3 := Aside0.mk (Kd.S_below (laws_FnExactLongestStair.bS HO3.out) hbb.out); replace HO3 := n3; clear n3; have n4 := Aside0.mk (Kd.R_below (bR HO4.out) hbb.out); replace HO4 := n4; clear n4; obtain ⟨lo5, hi5, bd, hm, ho⟩ := laws_FnExactLongestStair.newR (base := w.heap.size) ho0 (below_size (bw HB.out)) (laws_FnExactLongestStair.sz HM.out) hbb.out.size; have HO5 := Aside0.mk ho; replace HM := Aside0.mk hm; have BD2 := Aside0.mk (And.intro bd BD.out); clear BD; have BD := BD2; clear BD2; clear ho ho0 bd hm; obtain ⟨Ao5, co5, eo5⟩ := Kd.R_slice HO5.out; subst eo5; have n0_ := Aside0.mk (below_step (bw HB.out) hbb.out); replace HB := n0_; clear n0_ hbb) | ((with_reducible refine gate_callee (f := 9) rfl ?_); refine goesL_ (some 45) rfl rfl Try.func9 (by kernel_rfl) rfl #[.slice Ao5 t8.length co5, .slice Ao2 t4.length co2] rfl (by (try simp only [mA_]); first | done | rfl | (simp only [List.length_drop, List.length_take]; rfl)) ?_; (with_reducible refine (laws_eqIntS.calls k _ _ t8 _ _ t4 true _ ?side1 ?side2 ?side3 ?side4 A10.out).mono ?_); (case side1 => exact laws_FnExactLongestStair.cR HO5.out); (case side2 => exact (Kd.R_reads' HO5.out).2.1); (case side3 => exact laws_FnExactLongestStair.cV HO2.out); (case side4 => exact (Kd.V_reads' HO2.out).2.1); rintro e w8 ⟨rfl, ⟨nd8, rfl⟩⟩; refine ⟨_, rfl, ?_⟩) | ((with_reducible refine gate_callee (f := 6) rfl ?_); refine goesL_ (some 54) rfl rfl Try.func6 (by kernel_rfl) rfl #[.slice A0 l0.length c0] rfl (by (try simp only [mA_]); first | done | rfl | (simp only [List.length_drop, List.length_take]; rfl)) ?_; (with_reducible refine (laws_toIntSS.calls k A0 c0 l0 t11 _ ?side1 ?side2 A13.out).mono ?_); (case side1 => exact bC HR0.out HB.out); (case side2 => exact HC0.out); rintro e w9 ⟨v9_0, rfl, ho0, hb⟩; refine ⟨_, rfl, ?_⟩; have hbb := Aside0.mk hb; clear hb; have n2 := Aside0.mk (Kd.V_below (laws_FnExactLongestStair.bV HO2.out) hbb.out); replace HO2 := n2; clear n2; have n3 := Aside0.mk (Kd.S_below (laws_FnExactLongestStair.bS HO3.out) hbb.out); replace HO3 := n3; clear n3; have n4 := Aside0.mk (Kd.R_below (bR HO4.out) hbb.out); replace HO4 := n4; clear n4; have n5 := Aside0.mk (Kd.R_below (bR HO5.out) hbb.out); replace HO5 := n5; clear n5; obtain ⟨lo6, hi6, bd, hm, ho⟩ := laws_FnExactLongestStair.newS (base := w.heap.size) ho0 (below_size (bw HB.out)) (laws_FnExactLongestStair.sz HM.out) hbb.out.size; have HO6 := Aside0.mk ho; replace HM := Aside0.mk hm; have BD2 := Aside0.mk (And.intro bd BD.out); clear BD; have BD := BD2; clear BD2; clear ho ho0 bd hm; obtain ⟨Ao6, co6, eo6⟩ := Kd.S_slice HO6.out; subst eo6; have n0_ := Aside0.mk (below_step (bw HB.out) hbb.out); replace HB := n0_; clear n0_ hbb) | ((with_reducible refine gate_callee (f := 10) rfl ?_); refine goesL_ (some 55) rfl rfl Try.func10 (by kernel_rfl) rfl #[.slice Ao3 t6.length co3, .slice Ao6 t11.length co6] rfl (by (try simp only [mA_]); first | done | rfl | (simp only [List.length_drop, List.length_take]; rfl)) ?_; (with_reducible refine (laws_eqIntSS.calls k _ _ t6 _ _ t11 true _ ?side1 ?side2 ?side3 ?side4 A14.out).mono ?_); (case side1 => exact laws_FnExactLongestStair.cS HO3.out); (case side2 => exact (Kd.S_reads' HO3.out).2.1); (case side3 => exact laws_FnExactLongestStair.cS HO6.out); (case side4 => exact (Kd.S_reads' HO6.out).2.1); rintro e w10 ⟨rfl, ⟨nd10, rfl⟩⟩; refine ⟨_, rfl, ?_⟩) | ((with_reducible refine gate_callee (f := 7) rfl ?_); refine goesL_ (some 59) rfl rfl Try.func7 (by kernel_rfl) rfl #[.slice A1 l1.length c1] rfl (by (try simp only [mA_]); first | done | rfl | (simp only [List.length_drop, List.length_take]; rfl)) ?_; (with_reducible refine (laws_toIntS.calls k A1 c1 l1 t13 _ ?side1 ?side2 A16.out).mono ?_); (case side1 => exact bC HR1.out HB.out); (case side2 => exact HC1.out); rintro e w11 ⟨v11_0, rfl, ho0, hb⟩; refine ⟨_, rfl, ?_⟩; have hbb := Aside0.mk hb; clear hb; have n2 := Aside0.mk (Kd.V_below (laws_FnExactLongestStair.bV HO2.out) hbb.out); replace HO2 := n2; clear n2; have n3 := Aside0.mk (Kd.S_below (laws_FnExactLongestStair.bS HO3.out) hbb.out); replace HO3 := n3; clear n3; have n4 := Aside0.mk (Kd.R_below (bR HO4.out) hbb.out); replace HO4 := n4; clear n4; have n5 := Aside0.mk (Kd.R_below (bR HO5.out) hbb.out); replace HO5 := n5; clear n5; obtain ⟨lo7, hi7, bd, hm, ho⟩ := laws_FnExactLongestStair.newR (base := w.heap.size) ho0 (below_size (bw HB.out)) (laws_FnExactLongestStair.sz HM.out) hbb.out.size; have HO7 := Aside0.mk ho; replace HM := Aside0.mk hm; have BD2 := Aside0.mk (And.intro bd BD.out); clear BD; have BD := BD2; clear BD2; clear ho ho0 bd hm; obtain ⟨Ao7, co7, eo7⟩ := Kd.R_slice HO7.out; subst eo7; have n0_ := Aside0.mk (below_step (bw HB.out) hbb.out); replace HB := n0_; clear n0_ hbb) | ((with_reducible refine gate_callee (f := 9) rfl ?_); refine goesL_ (some 60) rfl rfl Try.func9 (by kernel_rfl) rfl #[.slice Ao4 t7.length co4, .slice Ao7 t13.length co7] rfl (by (try simp only [mA_]); first | done | rfl | (simp only [List.length_drop, List.length_take]; rfl)) ?_; (with_reducible refine (laws_eqIntS.calls k _ _ t7 _ _ t13 true _ ?side1 ?side2 ?side3 ?side4 A17.out).mono ?_); (case side1 => exact laws_FnExactLongestStair.cR HO4.out); (case side2 => exact (Kd.R_reads' HO4.out).2.1); (case side3 => exact laws_FnExactLongestStair.cR HO7.out); (case side4 => exact (Kd.R_reads' HO7.out).2.1); rintro e w12 ⟨rfl, ⟨nd12, rfl⟩⟩; refine ⟨_, rfl, ?_⟩) | ((with_reducible refine gate_callee (f := 11) rfl ?_); refine goesL_ (some 64) rfl rfl Try.func11 (by kernel_rfl) rfl #[.slice Ao3 t6.length co3, .int .i64 1] rfl (by (try simp only [mA_]); first | done | rfl | (simp only [List.length_drop, List.length_take]; rfl)) ?_; (with_reducible refine (laws_markIntSS.calls k (fun k_ => lo3 ≤ k_ ∧ k_ < hi3) _ t6 1 t15 t16 w _ ?side1 ?side2 A19.out).mono ?_); (case side1 => exact bw HB.out); (case side2 => exact laws_FnExactLongestStair.bS HO3.out); rintro e w13 ⟨rfl, ho0, hb, hk⟩; refine ⟨_, rfl, ?_⟩; have n2 := Aside0.mk (Kd.V_kept (laws_FnExactLongestStair.bV HO2.out) hk (fun k_ h1 h2 => by have b_ := BD.out; omega)); replace HO2 := n2; clear n2; have n4 := Aside0.mk (Kd.R_kept (bR HO4.out) hk (fun k_ h1 h2 => by have b_ := BD.out; omega)); replace HO4 := n4; clear n4; have n5 := Aside0.mk (Kd.R_kept (bR HO5.out) hk (fun k_ h1 h2 => by have b_ := BD.out; omega)); replace HO5 := n5; clear n5; have n0_ := Aside0.mk hb; replace HB := n0_; replace HM := Aside0.mk (Nat.le_trans (laws_FnExactLongestStair.sz HM.out) hk.1); clear n0_ ho0 hb hk) | ((with_reducible refine gate_callee (f := 12) rfl ?_); refine goesL_ (some 67) rfl rfl Try.func12 (by kernel_rfl) rfl #[.slice Ao4 t7.length co4, .int .i64 t15] rfl (by (try simp only [mA_]); first | done | rfl | (simp only [List.length_drop, List.length_take]; rfl)) ?_; (with_reducible refine (laws_markIntS.calls k (fun k_ => lo4 ≤ k_ ∧ k_ < hi4) _ t7 t15 t17 t18 w _ ?side1 ?side2 A20.out).mono ?_); (case side1 => exact bw HB.out); (case side2 => exact bR HO4.out); rintro e w14 ⟨rfl, ho0, hb, hk⟩; refine ⟨_, rfl, ?_⟩; have n2 := Aside0.mk (Kd.V_kept (laws_FnExactLongestStair.bV HO2.out) hk (fun k_ h1 h2 => by have b_ := BD.out; omega)); replace HO2 := n2; clear n2; have n5 := Aside0.mk (Kd.R_kept (bR HO5.out) hk (fun k_ h1 h2 => by have b_ := BD.out; omega)); replace HO5 := n5; clear n5; have n0_ := Aside0.mk hb; replace HB := n0_; replace HM := Aside0.mk (Nat.le_trans (laws_FnExactLongestStair.sz HM.out) hk.1); clear n0_ ho0 hb hk) | (go_at_call 9; (with_reducible refine (laws_eqIntS.calls k _ _ t8 _ _ t4 true _ ?side1 ?side2 ?side3 ?side4 A22.out).mono ?_); (case side1 => exact laws_FnExactLongestStair.cR HO5.out); (case side2 => exact (Kd.R_reads' HO5.out).2.1); (case side3 => exact laws_FnExactLongestStair.cV HO2.out); (case side4 => exact (Kd.V_reads' HO2.out).2.1); rintro e w15 ⟨rfl, ⟨nd15, rfl⟩⟩) | ((with_reducible refine gate_callee (f := 12) rfl ?_); refine goesL_ (some 83) rfl rfl Try.func12 (by kernel_rfl) rfl #[.slice Ao5 t8.length co5, .int .i64 1] rfl (by (try simp only [mA_]); first | done | rfl | (simp only [List.length_drop, List.length_take]; rfl)) ?_; (with_reducible refine (laws_markIntS.calls k (fun k_ => lo5 ≤ k_ ∧ k_ < hi5) _ t8 1 t20 t21 w _ ?side1 ?side2 A25.out).mono ?_); (case side1 => exact bw HB.out); (case side2 => exact bR HO5.out); rintro e w16 ⟨rfl, ho0, hb, hk⟩; refine ⟨_, rfl, ?_⟩; have n2 := Aside0.mk (Kd.V_kept (laws_FnExactLongestStair.bV HO2.out) hk (fun k_ h1 h2 => by have b_ := BD.out; omega)); replace HO2 := n2; clear n2; have LN5 := Aside0.mk (Kd.R_reads' ho0).1; rw [LN5.out] at ho0; replace HO5 := Aside0.mk ho0; have n0_ := Aside0.mk hb; replace HB := n0_; replace HM := Aside0.mk (Nat.le_trans (laws_FnExactLongestStair.sz HM.out) hk.1); clear n0_ ho0 hb hk) | ((with_reducible refine gate_callee (f := 13) rfl ?_); refine goesL_ (some 86) rfl rfl Try.func13 (by kernel_rfl) rfl #[.slice Ao5 t8.length co5, .int .i64 1] rfl (by (try simp only [mA_]); first | done | rfl | (simp only [List.length_drop, List.length_take]; rfl)) ?_; refine calls_args (a' := #[.slice Ao5 t21.length co5, .int .i64 1]) (by rw [LN5.out]) ?_; (with_reducible refine (laws_heldIntS.calls k _ _ t21 1 t22 _ ?side1 ?side2 A26.out).mono ?_); (case side1 => exact laws_FnExactLongestStair.cR HO5.out); (case side2 => exact (Kd.R_reads' HO5.out).2.1); rintro e w17 ⟨rfl, ⟨nd17, rfl⟩⟩; refine ⟨_, rfl, ?_⟩) | ((with_reducible refine gate_callee (f := 6) rfl ?_); refine goesL_ (some 94) rfl rfl Try.func6 (by kernel_rfl) rfl #[.slice A0 l0.length c0] rfl (by (try simp only [mA_]); first | done | rfl | (simp only [List.length_drop, List.length_take]; rfl)) ?_; (with_reducible refine (laws_toIntSS.calls k A0 c0 l0 t23 _ ?side1 ?side2 A29.out).mono ?_); (case side1 => exact bC HR0.out HB.out); (case side2 => exact HC0.out); rintro e w18 ⟨v18_0, rfl, ho0, hb⟩; refine ⟨_, rfl, ?_⟩; have hbb := Aside0.mk hb; clear hb; have n2 := Aside0.mk (Kd.V_below (laws_FnExactLongestStair.bV HO2.out) hbb.out); replace HO2 := n2; clear n2; have n5 := Aside0.mk (Kd.R_below (bR HO5.out) hbb.out); replace HO5 := n5; clear n5; obtain ⟨lo8, hi8, bd, hm, ho⟩ := laws_FnExactLongestStair.newS (base := w.heap.size) ho0 (below_size (bw HB.out)) (laws_FnExactLongestStair.sz HM.out) hbb.out.size; have HO8 := Aside0.mk ho; replace HM := Aside0.mk hm; have BD2 := Aside0.mk (And.intro bd BD.out); clear BD; have BD := BD2; clear BD2; clear ho ho0 bd hm; obtain ⟨Ao8, co8, eo8⟩ := Kd.S_slice HO8.out; subst eo8; have n0_ := Aside0.mk (below_step (bw HB.out) hbb.out); replace HB := n0_; clear n0_ hbb) | ((with_reducible refine gate_callee (f := 7) rfl ?_); refine goesL_ (some 96) rfl rfl Try.func7 (by kernel_rfl) rfl #[.slice A1 l1.length c1] rfl (by (try simp only [mA_]); first | done | rfl | (simp only [List.length_drop, List.length_take]; rfl)) ?_; (with_reducible refine (laws_toIntS.calls k A1 c1 l1 t24 _ ?side1 ?side2 A30.out).mono ?_); (case side1 => exact bC HR1.out HB.out); (case side2 => exact HC1.out); rintro e w19 ⟨v19_0, rfl, ho0, hb⟩; refine ⟨_, rfl, ?_⟩; have hbb := Aside0.mk hb; clear hb; have n2 := Aside0.mk (Kd.V_below (laws_FnExactLongestStair.bV HO2.out) hbb.out); replace HO2 := n2; clear n2; have n5 := Aside0.mk (Kd.R_below (bR HO5.out) hbb.out); replace HO5 := n5; clear n5; have n8 := Aside0.mk (Kd.S_below (laws_FnExactLongestStair.bS HO8.out) hbb.out); replace HO8 := n8; clear n8; obtain ⟨lo9, hi9, bd, hm, ho⟩ := laws_FnExactLongestStair.newR (base := w.heap.size) ho0 (below_size (bw HB.out)) (laws_FnExactLongestStair.sz HM.out) hbb.out.size; have HO9 := Aside0.mk ho; replace HM := Aside0.mk hm; have BD2 := Aside0.mk (And.intro bd BD.out); clear BD; have BD := BD2; clear BD2; clear ho ho0 bd hm; obtain ⟨Ao9, co9, eo9⟩ := Kd.R_slice HO9.out; subst eo9; have n0_ := Aside0.mk (below_step (bw HB.out) hbb.out); replace HB := n0_; clear n0_ hbb) | ((with_reducible refine gate_callee (f := 8) rfl ?_); refine goesL_ (some 97) rfl rfl Try.func8 (by kernel_rfl) rfl #[.slice Ao8 t23.length co8, .slice Ao9 t24.length co9] rfl (by (try simp only [mA_]); first | done | rfl | (simp only [List.length_drop, List.length_take]; rfl)) ?_; (with_reducible refine (impl_LongestStair.calls k _ _ t23 _ _ t24 t25 t26 _ ?side1 ?side2 ?side3 ?side4 A31.out).mono ?_); (case side1 => exact laws_FnExactLongestStair.cS HO8.out); (case side2 => exact (Kd.S_reads' HO8.out).2.1); (case side3 => exact laws_FnExactLongestStair.cR HO9.out); (case side4 => exact (Kd.R_reads' HO9.out).2.1); rintro e w20 ⟨v20_0, rfl, ho0, hb⟩; refine ⟨_, rfl, ?_⟩; have hbb := Aside0.mk hb; clear hb; have n2 := Aside0.mk (Kd.V_below (laws_FnExactLongestStair.bV HO2.out) hbb.out); replace HO2 := n2; clear n2; have n5 := Aside0.mk (Kd.R_below (bR HO5.out) hbb.out); replace HO5 := n5; clear n5; obtain ⟨lo10, hi10, bd, hm, ho⟩ := laws_FnExactLongestStair.newR (base := w.heap.size) ho0 (below_size (bw HB.out)) (laws_FnExactLongestStair.sz HM.out) hbb.out.size; have HO10 := Aside0.mk ho; replace HM := Aside0.mk hm; have BD2 := Aside0.mk (And.intro bd BD.out); clear BD; have BD := BD2; clear BD2; clear ho ho0 bd hm; obtain ⟨Ao10, co10, eo10⟩ := Kd.R_slice HO10.out; subst eo10; have n0_ := Aside0.mk (below_step (bw HB.out) hbb.out); replace HB := n0_; clear n0_ hbb) | ((with_reducible refine gate_callee (f := 9) rfl ?_); refine goesL_ (some 102) rfl rfl Try.func9 (by kernel_rfl) rfl #[.slice Ao10 t25.length co10, .slice Ao2 t4.length co2] rfl (by (try simp only [mA_]); first | done | rfl | (simp only [List.length_drop, List.length_take]; rfl)) ?_; (with_reducible refine (laws_eqIntS.calls k _ _ t25 _ _ t4 true _ ?side1 ?side2 ?side3 ?side4 A32.out).mono ?_); (case side1 => exact laws_FnExactLongestStair.cR HO10.out); (case side2 => exact (Kd.R_reads' HO10.out).2.1); (case side3 => exact laws_FnExactLongestStair.cV HO2.out); (case side4 => exact (Kd.V_reads' HO2.out).2.1); rintro e w21 ⟨rfl, ⟨nd21, rfl⟩⟩; refine ⟨_, rfl, ?_⟩) | ((with_reducible refine gate_callee (f := 13) rfl ?_); refine goesL_ (some 111) rfl rfl Try.func13 (by kernel_rfl) rfl #[.slice Ao5 t8.length co5, .int .i64 1] rfl (by (try simp only [mA_]); first | done | rfl | (simp only [List.length_drop, List.length_take]; rfl)) ?_; refine calls_args (a' := #[.slice Ao5 t21.length co5, .int .i64 1]) (by rw [LN5.out]) ?_; (with_reducible refine (laws_heldIntS.calls k _ _ t21 1 t28 _ ?side1 ?side2 A35.out).mono ?_); (case side1 => exact laws_FnExactLongestStair.cR HO5.out); (case side2 => exact (Kd.R_reads' HO5.out).2.1); rintro e w22 ⟨rfl, ⟨nd22, rfl⟩⟩; refine ⟨_, rfl, ?_⟩))
 go_ret
 exact ⟨by first | rfl | (simp [*]; done), bw HB.out⟩

end Go.Proofs.Ytenfjdjejnoofaa.X
