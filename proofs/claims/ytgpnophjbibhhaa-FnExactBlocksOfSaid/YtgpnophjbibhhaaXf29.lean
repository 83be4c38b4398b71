-- Written by a program of this session (wip/gen/xp.py, over the kit's printer). Not trusted: Lean checks it.
import Derived.Test.YtgpnophjbibhhaaX0
import Derived.Test.YtgpnophjbibhhaaXf28
namespace Go.Proofs.Ytgpnophjbibhhaa.X
open Go.RowKit Go.Proofs.YtgpnophjbibhhaaW.PrintWords Go.Proofs.YtgpnophjbibhhaaW.PrintLast Go.Proofs.YtgpnophjbibhhaaW.PrintMore
attribute [local go_sem] max2_int min2_int max_two min_two max_three min_three max_four min_four   -- for this text's walks alone
set_option linter.unusedVariables false
set_option linter.unusedSimpArgs false

/-! ### laws_markIntSS: function 29 -/
def laws_markIntSS.l0 : Nat → List (List (Int)) → Int → Int → Option (Int × List (List (Int)))
 | 0, _, _, _ => none
 | k + 1, x0, x1, x5 => if x5 < (x0.length : Int) then (if 0 ≤ x5 then ((laws_markIntS.f k (x0.getD x5.toNat ([] : List (Int))) x1).bind fun p => (laws_markIntSS.l0 k (x0.set (x5 : Int).toNat p.2) p.1 (wrap64 (x5 + 1)))) else (none)) else (some (x1, x0))
def laws_markIntSS.f (k : Nat) (l0 : List (List (Int))) (a1 : Int) : Option (Int × List (List (Int))) := laws_markIntSS.l0 k l0 a1 0
theorem laws_markIntSS.mono_l : ∀ k, (∀ y0 y1 y2, LeO (laws_markIntSS.l0 k y0 y1 y2) (laws_markIntSS.l0 (k + 1) y0 y1 y2))
 | 0 => fun _ _ _ r h => by simp [laws_markIntSS.l0] at h
 | k + 1 => by
  have ih0 := laws_markIntSS.mono_l k
  intro y0 y1 y2
  unfold laws_markIntSS.l0
  exact LeO.ite (LeO.ite (LeO.bind (laws_markIntS.mono _ _ _) (fun _ => ih0 _ _ _)) (LeO.none _)) (LeO.refl _)
theorem laws_markIntSS.mono : ∀ a0 a1 k, LeO (laws_markIntSS.f k a0 a1) (laws_markIntSS.f (k + 1) a0 a1) := fun a0 a1 k => laws_markIntSS.mono_l k a0 a1 0
/-- A round: one row is marked. -/
theorem laws_markIntSS.step {w0 wr w' : World} {P : Nat → Prop} {c ci n : Nat} {xs : List (List (Int))} {i : Int} {g : Nat} {oki : Nat → Prop} {Ai : Option Addr} {ys : List (Int)}
  (hB : Below w0.heap.size w0 wr) (hB' : Below w0.heap.size w0 w')
  (hbk : ∀ {w1 : World} {row : Option Nat} {x' : List (Int)}, wr.grownBy w1 row → (∀ k, row = some k → oki k) → (Kd.slice 3 (Kd.int .i64)).M w1 w0.heap.size oki x' [.slice Ai n ci] → Kd.S (Kd.slice 3 (Kd.int .i64)) 23 w1 w0.heap.size P (.slice (some ⟨g, 0, none⟩) xs.length c) (xs.set i.toNat x'))
  (hR : Kd.R (Kd.int .i64) 3 wr w0.heap.size oki (.slice Ai n ci) ys) {zs : List (Int)}
  (hR' : Kd.R (Kd.int .i64) 3 w' w0.heap.size (fun k_ => (some k_ = (Value.slice Ai n ci).ownBlock ∨ wr.heap.size ≤ k_)) (.slice Ai n ci) zs) (hK : Kept wr w' (fun k_ => some k_ = (Value.slice Ai n ci).ownBlock)) :
  Kd.S (Kd.slice 3 (Kd.int .i64)) 23 w' w0.heap.size P (.slice (some ⟨g, 0, none⟩) xs.length c) (xs.set i.toNat zs) := by
 have hg : wr.grownBy w' (Value.slice Ai n ci).ownBlock := ⟨hB'.os.trans hB.os.symm, hB'.tape.trans hB.tape.symm, hB'.output.trans hB.output.symm, hK.1, fun k hk hne => hK.2 k hk hne⟩
 refine hbk hg (fun k hk => hR.1 k hk) ?_
 exact Kd.M_row (Kd.R_reok rfl hR' (fun k hk => hR.1 k hk))
set_option maxHeartbeats 8000000 in
set_option maxRecDepth 100000 in
theorem laws_markIntSS.calls (k : Nat) (P0_ : Nat → Prop) (u9000_ : Value) (l0 : List (List (Int))) (a1 : Int) (r1 : Int) (r2 : List (List (Int))) (w0 w : World) (hB : Below w0.heap.size w0 w) (ho0 : Kd.S (Kd.slice 3 (Kd.int .i64)) 23 w w0.heap.size P0_ u9000_ l0) (h : laws_markIntSS.f k l0 a1 = some (r1, r2)) :
  Calls Try.prog 29 #[u9000_, .int .i64 a1] w fun e w' => e = .returned (.int .i64 r1) ∧ Kd.S (Kd.slice 3 (Kd.int .i64)) 23 w' w0.heap.size P0_ u9000_ r2 ∧ Below w0.heap.size w0 w' ∧ Kept w w' (fun k_ => P0_ k_) := by
 have HO0 := Aside0.mk ho0
 have HK := Aside0.mk (Kept.refl w (fun k_ => P0_ k_))
 have HB := Aside0.mk hB
 clear hB ho0
 have H' : Aside0 ((laws_markIntSS.l0 k l0 a1 0) = some (r1, r2)) := ⟨h⟩
 clear h
 obtain ⟨A0, c0, e0⟩ := Kd.S_slice HO0.out
 subst e0
 go_enter Try.func29, Try.ntmps29
 go_wp2
 go_loopg [1, 5] k (fun kq v1 v5 w' => ∃ (x0_1 : List (List (Int))) (x1_1 : Int) (x5_1 : Int), v1 = .int .i64 x1_1 ∧ v5 = .int .i64 x5_1 ∧ Aside0 (laws_markIntSS.l0 kq x0_1 x1_1 x5_1 = some (r1, r2)) ∧ Aside0 (kq ≤ k) ∧ Aside0 (x0_1.length = l0.length) ∧ Aside0 (Kd.S (Kd.slice 3 (Kd.int .i64)) 23 w' w0.heap.size P0_ (.slice A0 l0.length c0) x0_1) ∧ Aside0 (Kept w w' (fun k_ => P0_ k_)) ∧ Aside0 (Below w0.heap.size w0 w'))
 case atStart => exact ⟨l0, a1, 0, rfl, rfl, H', ⟨Nat.le_refl _⟩, ⟨rfl⟩, HO0, HK, HB⟩
 case round =>
  clear H' HO0 HK HB
  obtain ⟨x0_1, x1_1, x5_1, rfl, rfl, HA, HK1, HL, HO, HK, HB⟩ := hrel
  cases gk with
  | zero => exact absurd HA.out (by simp [laws_markIntSS.l0])
  | succ k1 =>
   have H := HA.out
   clear HA
   simp only [laws_markIntSS.l0] at H
   by_cases c3 : x5_1 < (x0_1.length : Int)
   rotate_left
   ·rw [if_neg c3] at H
    have c3b0 : decide (x5_1 < (l0.length : Int)) = false := decide_eq_false (by have := HL.out; omega)
    simp only [Option.some.injEq, Prod.mk.injEq] at H
    obtain ⟨rfl, rfl⟩ := H
    clear c3
    go_wp2
    go_ret
    exact ⟨rfl, HO.out, HB.out, HK.out⟩
   rw [if_pos c3] at H
   by_cases c4 : 0 ≤ x5_1
   rotate_left
   ·rw [if_neg c4] at H
    exact absurd H (by simp)
   rw [if_pos c4] at H
   obtain ⟨⟨t1, t2⟩, A1, H⟩ := Option.bind_eq_some_iff.mp H
   have c3l : x5_1 < (l0.length : Int) := by have := HL.out; omega
   have c3b0 : decide (x5_1 < (l0.length : Int)) = true := decide_eq_true c3l
   have c4b := eq_true c4
   have c3t := eq_true c3l
   obtain ⟨go, co, eo, gb, gl, cl, HG⟩ := Kd.S_form HO.out (by omega)
   have HL' := HL.out
   obtain ⟨rfl, rfl⟩ : A0 = some ⟨go, 0, none⟩ ∧ c0 = co := by
    injection eo with e1 e2 e3
    exact ⟨e1, e3⟩
   have HO2 := Aside0.mk (show Kd.S (Kd.slice 3 (Kd.int .i64)) 23 wr w0.heap.size P0_ (.slice (some ⟨go, 0, none⟩) x0_1.length c0) x0_1 from by rw [HL']; exact HO.out)
   obtain ⟨oki, ce, hcl, hM, hcc, hok, hbk⟩ := Kd.S_borrow HO2.out ([] : List (Int)) x5_1 c4 c3
   obtain ⟨ve, rfl, hR⟩ := hM
   have hv := hcc 0 _ rfl
   obtain ⟨Ai, ci, ei⟩ := Kd.R_slice hR
   have ez : (⟨go, 0, none⟩ : Addr).add (x5_1.toNat * (Kd.slice 3 (Kd.int .i64)).sz + 0) = ⟨go, x5_1.toNat, none⟩ := by
    rw [Nat.add_zero, show (Kd.slice 3 (Kd.int .i64)).sz = 1 from rfl, Nat.mul_one]
    first | rfl | (simp only [add_plain]; done) | simp [Addr.add]
   rw [ez] at hv
   obtain ⟨ys, hys⟩ : ∃ ys : List (Int), ys = x0_1.getD x5_1.toNat [] := ⟨_, rfl⟩
   rw [← hys] at hR A1 ei
   subst ei
   have HR := Aside0.mk hR
   have HBK := Aside0.mk (fun (w' : World) (zs : List (Int)) (hB' : Below w0.heap.size w0 w') hR' hK => laws_markIntSS.step (zs := zs) HB.out hB' hbk hR hR' hK)
   have HOK := Aside0.mk (fun k_ (e_ : some k_ = (Value.slice Ai ys.length ci).ownBlock) => (hok k_ (hR.1 k_ e_.symm)).1)
   have HCA := Aside0.mk (laws_markIntS.calls k1 (fun k_ => some k_ = (Value.slice Ai ys.length ci).ownBlock) (.slice Ai ys.length ci) ys x1_1 t1 t2 w0 wr HB.out (Kd.R_tight rfl hR) A1)
   have H' := Aside0.mk H
   have HYS := Aside0.mk hys
   clear H A1 hbk hok hR hcc hcl HG gb gl cl eo c3 c4 c3l HL' ez hys
   go_wp2_with (go_at_call 28; (with_reducible refine (HCA.out).mono ?_); rintro e w' ⟨rfl, hi, hb, hk⟩; have n0 := Aside0.mk (HBK.out w' t2 hb hi hk); have n1 := Aside0.mk hb; have n2 := Aside0.mk (show Kept w w' (fun k_ => P0_ k_) from ⟨Nat.le_trans HK.out.1 hk.1, fun i hi_ hn_ => (hk.2 i (Nat.lt_of_lt_of_le hi_ HK.out.1) (fun e_ => hn_ (HOK.out i e_))).trans (HK.out.2 i hi_ hn_)⟩); clear hi hb hk HB HK; have HB := n1; have HK := n2; clear n1 n2)
   go_roundg k1
   case measure => have := HK1.out; omega
   case rel =>
    refine ⟨x0_1.set x5_1.toNat t2, t1, wrap64 (x5_1 + 1), (by first | rfl | (simp; done)), (by first | rfl | (simp; done)), H', ⟨by have := HK1.out; omega⟩, ⟨by rw [List.length_set]; exact HL.out⟩, ⟨?_⟩, HK, HB⟩
    have h_ := n0.out
    rw [HL.out] at h_
    exact h_

end Go.Proofs.Ytgpnophjbibhhaa.X
