-- Written by a program of this session (wip/gen/xp.py, over the kit's printer). Not trusted: Lean checks it.
import Derived.Test.YtgpnophjbibhhaaX0
namespace Go.Proofs.Ytgpnophjbibhhaa.X
open Go.RowKit Go.Proofs.YtgpnophjbibhhaaW.PrintWords Go.Proofs.YtgpnophjbibhhaaW.PrintLast Go.Proofs.YtgpnophjbibhhaaW.PrintMore
attribute [local go_sem] max2_int min2_int max_two min_two max_three min_three max_four min_four   -- for this text's walks alone
set_option linter.unusedVariables false
set_option linter.unusedSimpArgs false

/-! ### laws_markOpS: function 153 -/
def laws_markOpS.l0 : Nat → List (S133) → Int → Int → Option (Int × (List (S133)))
 | 0, _, _, _ => none
 | k + 1, x0, x1, x5 => if x5 < (x0.length : Int) then (if 0 ≤ x5 then ((some (x0.set (x5 : Int).toNat (⟨x1, (rd_T133 x0 x5).f1⟩ : S133) : List (S133))).bind fun y585 => (laws_markOpS.l0 k (y585.set (x5 : Int).toNat (⟨(rd_T133 y585 x5).f0, wrap64 (x1 + 1)⟩ : S133)) (wrap64 ((wrap64 (x1 + 1)) + 1)) (wrap64 (x5 + 1)))) else (none)) else (some (x1, x0))
def laws_markOpS.f (k : Nat) (l0 : List (S133)) (a1 : Int) : Option (Int × (List (S133))) := laws_markOpS.l0 k l0 a1 0
theorem laws_markOpS.mono_l : ∀ k, (∀ y0 y1 y2, LeO (laws_markOpS.l0 k y0 y1 y2) (laws_markOpS.l0 (k + 1) y0 y1 y2))
 | 0 => fun _ _ _ r h => by simp [laws_markOpS.l0] at h
 | k + 1 => by
  have ih0 := laws_markOpS.mono_l k
  ·intro y0 y1 y2
   unfold laws_markOpS.l0
   repeat' first
   | (with_reducible exact ih0 _ _ _)
   | (with_reducible exact LeO.refl _)
   | (with_reducible exact LeO.none _)
   | (with_reducible refine LeO.ite ?_ ?_)
   | (with_reducible refine LeO.bind ?_ (fun _ => ?_))
   | exact ih0 _ _ _
   | exact LeO.none _
   | refine LeO.ite ?_ ?_
   | refine LeO.bind ?_ (fun _ => ?_)
theorem laws_markOpS.mono : ∀ a0 a1 k, LeO (laws_markOpS.f k a0 a1) (laws_markOpS.f (k + 1) a0 a1) := by
 intro a0 a1 k
 have ih0 := laws_markOpS.mono_l k
 unfold laws_markOpS.f
 repeat' first
   | (with_reducible exact ih0 _ _ _)
   | (with_reducible exact LeO.refl _)
   | (with_reducible exact LeO.none _)
   | (with_reducible refine LeO.ite ?_ ?_)
   | (with_reducible refine LeO.bind ?_ (fun _ => ?_))
   | exact ih0 _ _ _
   | exact LeO.none _
   | refine LeO.ite ?_ ?_
   | refine LeO.bind ?_ (fun _ => ?_)
set_option maxHeartbeats 8000000 in
set_option maxRecDepth 100000 in
theorem laws_markOpS.calls (k : Nat) (P0_ : Nat → Prop) (u9000_ : Value) (l0 : List (S133)) (a1 : Int) (r1 : Int) (r2 : List (S133)) (w0 w : World) (hB : Below w0.heap.size w0 w) (ho0 : Kd.R k133 133 w w0.heap.size P0_ u9000_ l0) (h : laws_markOpS.f k l0 a1 = some (r1, r2)) :
  Calls Try.prog 153 #[u9000_, .int .i64 a1] w fun e w' => e = .returned (.int .i64 r1) ∧ Kd.R k133 133 w' w0.heap.size (fun k_ => (P0_ k_ ∨ w.heap.size ≤ k_)) u9000_ r2 ∧ Below w0.heap.size w0 w' ∧ Kept w w' (fun k_ => P0_ k_) := by
 have HO0 := Aside0.mk (show Kd.R k133 133 w w0.heap.size (fun k_ => (P0_ k_ ∨ w.heap.size ≤ k_)) u9000_ l0 from Kd.R_mono ho0 (fun k_ hk => (.inl hk)))
 have HK := Aside0.mk (Kept.refl w (fun k_ => P0_ k_))
 have HW0 := Aside0.mk hB.size
 have HB := Aside0.mk hB
 clear hB
 have H : (laws_markOpS.l0 k l0 a1 0) = some (r1, r2) := h
 clear h
 have H' := Aside0.mk H
 clear H
 go_enter Try.func153, Try.ntmps153
 go_wp2
 go_loopg [1, 5] k (fun kq v1 v5 w' => ∃ (x0_1 : List (S133)) (x1_1 : Int) (x5_1 : Int), v1 = .int .i64 x1_1 ∧ v5 = .int .i64 x5_1 ∧ Aside0 (laws_markOpS.l0 kq x0_1 x1_1 x5_1 = some (r1, r2)) ∧ Aside0 (kq ≤ k) ∧ Aside0 (Kd.R k133 133 w' w0.heap.size (fun k_ => (P0_ k_ ∨ w.heap.size ≤ k_)) u9000_ x0_1) ∧ Aside0 (Kept w w' (fun k_ => P0_ k_)) ∧ Aside0 (Below w0.heap.size w0 w'))
 case atStart => exact ⟨(l0), (a1), (0), (by first | rfl | (simp; done) | (simp [*]; done)), (by first | rfl | (simp; done) | (simp [*]; done)), H', ⟨Nat.le_refl _⟩, ⟨bR HO0.out⟩, ⟨by repeat (first | (with_reducible first | exact HK.out | apply Kept.alloc | apply Kept.drewN | apply Kept.drew) | exact HK.out)⟩, ⟨bw HB.out⟩⟩
 case round =>
  clear H'
  try clear c1
  try clear p2
  obtain ⟨x0_1, x1_1, x5_1, rfl, rfl, HA, HK1, HO_0, HK, HB⟩ := hrel
  cases gk with
  | zero => exact absurd HA.out (by simp [laws_markOpS.l0])
  | succ k1 =>
   have H := HA.out
   clear HA
   simp only [laws_markOpS.l0] at H
   by_cases c3 : x5_1 < (x0_1.length : Int)
   rotate_left
   ·rw [if_neg c3] at H
    have c3b0 : decide (x5_1 < (x0_1.length : Int)) = false := decide_eq_false c3
    clear c3
    simp only [Option.some.injEq, Prod.mk.injEq] at H
    obtain ⟨rfl, rfl⟩ := H
    obtain ⟨Ao12, co12, eo12⟩ := Kd.R_slice HO_0.out
    subst eo12
    go_wp2
    go_ret
    exact ⟨by first | rfl | (simp [errW_none, errW_some] <;> rfl) | (simp [*, errW_none, errW_some] <;> rfl), by (with_reducible repeat (first | apply Kd.R_alloc | apply Kd.R_drewN | apply Kd.R_drew)); exact HO_0.out, bw HB.out, by repeat (first | (with_reducible first | exact HK.out | apply Kept.alloc | apply Kept.drewN | apply Kept.drew) | exact HK.out)⟩
   rw [if_pos c3] at H
   have c3b0 : decide (x5_1 < (x0_1.length : Int)) = true := decide_eq_true c3
   clear c3
   by_cases c4 : 0 ≤ x5_1
   rotate_left
   ·rw [if_neg c4] at H
    exact absurd H (by simp)
   rw [if_pos c4] at H
   have c4b0 : decide (0 ≤ x5_1) = true := decide_eq_true c4
   clear c4
   obtain ⟨y585, hy585⟩ : ∃ y_ : List (S133), y_ = (x0_1.set (x5_1 : Int).toNat (⟨x1_1, (rd_T133 x0_1 x5_1).f1⟩ : S133)) := ⟨_, rfl⟩
   replace H : (laws_markOpS.l0 k1 (y585.set (x5_1 : Int).toNat (⟨(rd_T133 y585 x5_1).f0, wrap64 (x1_1 + 1)⟩ : S133)) (wrap64 ((wrap64 (x1_1 + 1)) + 1)) (wrap64 (x5_1 + 1))) = some (r1, r2) := by first | (rw [hy585]; with_reducible exact H) | (have H2_ := (Option.bind_some _ _).symm.trans H; rw [hy585]; with_reducible exact H2_) | (have H2_ := (Option.bind_some _ _).symm.trans H; with_reducible exact H2_) | with_reducible exact H | (rw [hy585]; exact H) | exact H
   have Ny585 := Aside0.mk hy585
   clear hy585
   obtain ⟨y586, hy586⟩ : ∃ y_ : List (S133), y_ = (y585.set (x5_1 : Int).toNat (⟨(rd_T133 y585 x5_1).f0, wrap64 (x1_1 + 1)⟩ : S133)) := ⟨_, rfl⟩
   replace H : (laws_markOpS.l0 k1 y586 (wrap64 ((wrap64 (x1_1 + 1)) + 1)) (wrap64 (x5_1 + 1))) = some (r1, r2) := by first | (rw [hy586]; with_reducible exact H) | (have H2_ := (Option.bind_some _ _).symm.trans H; rw [hy586]; with_reducible exact H2_) | (have H2_ := (Option.bind_some _ _).symm.trans H; with_reducible exact H2_) | with_reducible exact H | (rw [hy586]; exact H) | exact H
   have Ny586 := Aside0.mk hy586
   clear hy586
   have H' := Aside0.mk H
   clear H
   obtain ⟨Ao7, co7, eo7⟩ := Kd.R_slice HO_0.out
   subst eo7
   have p5 : 0 ≤ (x5_1 : Int) := of_decide_eq_true (by first | (with_reducible assumption) | assumption)
   have q5 : (x5_1 : Int) < ((x0_1.length : Int) : Int) := of_decide_eq_true (by first | (with_reducible assumption) | assumption)
   obtain ⟨go5, co5, eo5, gb5, gl5, cl5, HG5⟩ := Kd.R_form HO_0.out (by omega)
   (first | cases eo5 | (injection eo5 with ea_ en_ ec_; (first | subst ea_ | (injection ea_ with ea_; subst ea_)); subst ec_; clear en_))
   have GB5 := Aside0.mk gb5
   have GG5 := Aside0.mk HG5
   clear gb5 gl5 HG5
   have HMgo5 := Aside0.mk (show (P0_ go5 ∨ w.heap.size ≤ go5) from (HO_0.out.1 _ rfl))
   obtain ⟨ce5, hcl5, hM5, hcc5, hfr5⟩ := Kd.R_elem HO_0.out z133 (x5_1 : Int) p5 q5
   obtain rfl := k133_openM hM5
   have hx5_0 : wr.cell? ⟨go5, (x5_1 : Int).toNat * 2, none⟩ = some (.int .i64 ((rd_T133 x0_1 x5_1).f0)) := hcc5 0 _ rfl
   have hx5_1 : wr.cell? ⟨go5, (x5_1 : Int).toNat * 2 + 1, none⟩ = some (.int .i64 ((rd_T133 x0_1 x5_1).f1)) := hcc5 1 _ rfl
   have hf5_0 : wr.frozen? ⟨go5, (x5_1 : Int).toNat * 2, none⟩ = false := hfr5 0
   have hf5_1 : wr.frozen? ⟨go5, (x5_1 : Int).toNat * 2 + 1, none⟩ = false := hfr5 1
   clear hcl5 hcc5 hfr5; (try clear hM5)
   replace p5 := eq_true p5
   replace q5 := eq_true q5
   have HX8 := Aside0.mk (show Kd.R k133 133 wr w0.heap.size (fun k_ => (P0_ k_ ∨ w.heap.size ≤ k_)) (.slice (some ⟨go5, 0, none⟩) x0_1.length co7) x0_1 from (bR HO_0.out))
   obtain ⟨ce8, hcl8, hM8, hcc8, hfr8⟩ := Kd.R_elem HX8.out z133 (x5_1 : Int) (of_decide_eq_true (by first | (with_reducible assumption) | assumption)) (by have h_ : (x5_1 : Int) < ((x0_1.length : Int) : Int) := of_decide_eq_true (by first | (with_reducible assumption) | assumption); first | exact h_ | (have e_ := (Kd.R_reads' HO_0.out).1; omega) | simpa using h_)
   obtain rfl := k133_openM hM8
   have HP8 := Kd.R_seg HX8.out (x5_1 : Int) (of_decide_eq_true (by first | (with_reducible assumption) | assumption)) (by have h_ : (x5_1 : Int) < ((x0_1.length : Int) : Int) := of_decide_eq_true (by first | (with_reducible assumption) | assumption); first | exact h_ | (have e_ := (Kd.R_reads' HO_0.out).1; omega) | simpa using h_) (seg := [.int .i64 x1_1]) (j := 0) hcl8 hcc8 (show 1 ≤ 2 from by decide) (x' := (⟨x1_1, (rd_T133 x0_1 x5_1).f1⟩ : S133)) (k133_mkM _ _ _ (⟨x1_1, (rd_T133 x0_1 x5_1).f1⟩ : S133) ) (fun _ hk => hk)
   have hx8_0 := hcc8 0 _ rfl
   (try simp only [show (k133).sz = 2 from rfl, Nat.mul_one, Nat.add_zero] at hx8_0)
   have hf8_0 := hfr8 0
   (try simp only [show (k133).sz = 2 from rfl, Nat.mul_one, Nat.add_zero] at hf8_0)
   clear hcl8 hcc8 hfr8; (try clear hM8)
   go_wp2_with (first | ((with_reducible refine gate_store (t := 3) (p := 16) rfl ?_); refine store_event (t := 3) (p := 16) (v := ?vo_w9) (w1 := (wr.setCell ⟨go5, (x5_1 : Int).toNat * 2, none⟩ (.int .i64 x1_1))) ?hg ?ho ?hn ?hr ?_; (case ho => rfl); (case hg => rfl); (case hn => rfl); (case hr => first | (go_simp; done) | (go_simp; rfl)); intro w9 hw; have hg : wr.grownBy w9 (some go5) := (by rw [hw]; exact HP8.2); have hp_ : Kd.R k133 133 w9 w0.heap.size (fun k_ => (P0_ k_ ∨ w.heap.size ≤ k_)) (.slice (some ⟨go5, 0, none⟩) x0_1.length co7) y585 := (by rw [hw, Ny585.out]; exact HP8.1); clear HP8; have n0_ := Aside0.mk (hp_); have n1_ := Aside0.mk ((by rw [hw]; exact below_set (HB.out) GB5.out : Below w0.heap.size w0 w9)); have n2_ := Aside0.mk (Kept.of_grown (S := (fun k_ => P0_ k_)) hg (by repeat (first | (with_reducible first | exact HK.out | apply Kept.alloc | apply Kept.drewN | apply Kept.drew) | exact HK.out)) (fun k_ e_ => (HO_0.out.1 k_ e_))); replace HO_0 := n0_; replace HB := n1_; replace HK := n2_; clear n0_ n1_ n2_; clear hg hw hp_; have p6 : 0 ≤ (x5_1 : Int) := of_decide_eq_true (by first | (with_reducible assumption) | assumption); have q6 : (x5_1 : Int) < ((x0_1.length : Int) : Int) := of_decide_eq_true (by first | (with_reducible assumption) | assumption); obtain ⟨ce6, hcl6, hM6, hcc6, hfr6⟩ := Kd.R_elem HO_0.out z133 (x5_1 : Int) p6 q6; obtain rfl := k133_openM hM6; have hx6_0 : w9.cell? ⟨go5, (x5_1 : Int).toNat * 2, none⟩ = some (.int .i64 ((rd_T133 y585 x5_1).f0)) := hcc6 0 _ rfl; have hx6_1 : w9.cell? ⟨go5, (x5_1 : Int).toNat * 2 + 1, none⟩ = some (.int .i64 ((rd_T133 y585 x5_1).f1)) := hcc6 1 _ rfl; have hf6_0 : w9.frozen? ⟨go5, (x5_1 : Int).toNat * 2, none⟩ = false := hfr6 0; have hf6_1 : w9.frozen? ⟨go5, (x5_1 : Int).toNat * 2 + 1, none⟩ = false := hfr6 1; clear hcl6 hcc6 hfr6; (try clear hM6); replace p6 := eq_true p6; replace q6 := eq_true q6; have HX10 := Aside0.mk (show Kd.R k133 133 w9 w0.heap.size (fun k_ => (P0_ k_ ∨ w.heap.size ≤ k_)) (.slice (some ⟨go5, 0, none⟩) x0_1.length co7) y585 from (bR HO_0.out)); obtain ⟨ce10, hcl10, hM10, hcc10, hfr10⟩ := Kd.R_elem HX10.out z133 (x5_1 : Int) (of_decide_eq_true (by first | (with_reducible assumption) | assumption)) (by have h_ : (x5_1 : Int) < ((x0_1.length : Int) : Int) := of_decide_eq_true (by first | (with_reducible assumption) | assumption); first | exact h_ | (have e_ := (Kd.R_reads' HO_0.out).1; omega) | simpa using h_); obtain rfl := k133_openM hM10; have HP10 := Kd.R_seg HX10.out (x5_1 : Int) (of_decide_eq_true (by first | (with_reducible assumption) | assumption)) (by have h_ : (x5_1 : Int) < ((x0_1.length : Int) : Int) := of_decide_eq_true (by first | (with_reducible assumption) | assumption); first | exact h_ | (have e_ := (Kd.R_reads' HO_0.out).1; omega) | simpa using h_) (seg := [.int .i64 (wrap64 (x1_1 + 1))]) (j := 1) hcl10 hcc10 (show 2 ≤ 2 from by decide) (x' := (⟨(rd_T133 y585 x5_1).f0, wrap64 (x1_1 + 1)⟩ : S133)) (k133_mkM _ _ _ (⟨(rd_T133 y585 x5_1).f0, wrap64 (x1_1 + 1)⟩ : S133) ) (fun _ hk => hk); have hx10_1 := hcc10 1 _ rfl; (try simp only [show (k133).sz = 2 from rfl, Nat.mul_one, Nat.add_zero] at hx10_1); have hf10_1 := hfr10 1; (try simp only [show (k133).sz = 2 from rfl, Nat.mul_one, Nat.add_zero] at hf10_1); clear hcl10 hcc10 hfr10; (try clear hM10)) | ((with_reducible refine gate_store (t := 3) (p := 23) rfl ?_); refine store_event (t := 3) (p := 23) (v := ?vo_w11) (w1 := (w9.setCell ⟨go5, (x5_1 : Int).toNat * 2 + 1, none⟩ (.int .i64 (wrap64 (x1_1 + 1))))) ?hg ?ho ?hn ?hr ?_; (case ho => rfl); (case hg => rfl); (case hn => rfl); (case hr => first | (go_simp; done) | (go_simp; rfl)); intro w11 hw; have hg : w9.grownBy w11 (some go5) := (by rw [hw]; exact HP10.2); have hp_ : Kd.R k133 133 w11 w0.heap.size (fun k_ => (P0_ k_ ∨ w.heap.size ≤ k_)) (.slice (some ⟨go5, 0, none⟩) x0_1.length co7) y586 := (by rw [hw, Ny586.out]; exact HP10.1); clear HP10; have n0_ := Aside0.mk (hp_); have n1_ := Aside0.mk ((by rw [hw]; exact below_set (HB.out) GB5.out : Below w0.heap.size w0 w11)); have n2_ := Aside0.mk (Kept.of_grown (S := (fun k_ => P0_ k_)) hg (by repeat (first | (with_reducible first | exact HK.out | apply Kept.alloc | apply Kept.drewN | apply Kept.drew) | exact HK.out)) (fun k_ e_ => (HO_0.out.1 k_ e_))); replace HO_0 := n0_; replace HB := n1_; replace HK := n2_; clear n0_ n1_ n2_; clear hg hw hp_))
   go_roundg k1
   case measure => have := HK1.out; omega
   case rel => exact ⟨(y586), (wrap64 ((wrap64 (x1_1 + 1)) + 1)), (wrap64 (x5_1 + 1)), (by first | rfl | (simp; done) | (simp [*]; done)), (by first | rfl | (simp; done) | (simp [*]; done)), H', ⟨by have := HK1.out; omega⟩, ⟨bR HO_0.out⟩, ⟨by repeat (first | (with_reducible first | exact HK.out | apply Kept.alloc | apply Kept.drewN | apply Kept.drew) | exact HK.out)⟩, ⟨bw HB.out⟩⟩

/-! ### laws_markOpSS: function 100 -/
def laws_markOpSS.l0 : Nat → List (List (S133)) → Int → Int → Option (Int × List (List (S133)))
 | 0, _, _, _ => none
 | k + 1, x0, x1, x5 => if x5 < (x0.length : Int) then (if 0 ≤ x5 then ((laws_markOpS.f k (x0.getD x5.toNat ([] : List (S133))) x1).bind fun p => (laws_markOpSS.l0 k (x0.set (x5 : Int).toNat p.2) p.1 (wrap64 (x5 + 1)))) else (none)) else (some (x1, x0))
def laws_markOpSS.f (k : Nat) (l0 : List (List (S133))) (a1 : Int) : Option (Int × List (List (S133))) := laws_markOpSS.l0 k l0 a1 0
theorem laws_markOpSS.mono_l : ∀ k, (∀ y0 y1 y2, LeO (laws_markOpSS.l0 k y0 y1 y2) (laws_markOpSS.l0 (k + 1) y0 y1 y2))
 | 0 => fun _ _ _ r h => by simp [laws_markOpSS.l0] at h
 | k + 1 => by
  have ih0 := laws_markOpSS.mono_l k
  intro y0 y1 y2
  unfold laws_markOpSS.l0
  exact LeO.ite (LeO.ite (LeO.bind (laws_markOpS.mono _ _ _) (fun _ => ih0 _ _ _)) (LeO.none _)) (LeO.refl _)
theorem laws_markOpSS.mono : ∀ a0 a1 k, LeO (laws_markOpSS.f k a0 a1) (laws_markOpSS.f (k + 1) a0 a1) := fun a0 a1 k => laws_markOpSS.mono_l k a0 a1 0
/-- A round: one row is marked. -/
theorem laws_markOpSS.step {w0 wr w' : World} {P : Nat → Prop} {c ci n : Nat} {xs : List (List (S133))} {i : Int} {g : Nat} {oki : Nat → Prop} {Ai : Option Addr} {ys : List (S133)}
  (hB : Below w0.heap.size w0 wr) (hB' : Below w0.heap.size w0 w')
  (hbk : ∀ {w1 : World} {row : Option Nat} {x' : List (S133)}, wr.grownBy w1 row → (∀ k, row = some k → oki k) → (Kd.slice 133 k133).M w1 w0.heap.size oki x' [.slice Ai n ci] → Kd.S (Kd.slice 133 k133) 107 w1 w0.heap.size P (.slice (some ⟨g, 0, none⟩) xs.length c) (xs.set i.toNat x'))
  (hR : Kd.R k133 133 wr w0.heap.size oki (.slice Ai n ci) ys) {zs : List (S133)}
  (hR' : Kd.R k133 133 w' w0.heap.size (fun k_ => (some k_ = (Value.slice Ai n ci).ownBlock ∨ wr.heap.size ≤ k_)) (.slice Ai n ci) zs) (hK : Kept wr w' (fun k_ => some k_ = (Value.slice Ai n ci).ownBlock)) :
  Kd.S (Kd.slice 133 k133) 107 w' w0.heap.size P (.slice (some ⟨g, 0, none⟩) xs.length c) (xs.set i.toNat zs) := by
 have hg : wr.grownBy w' (Value.slice Ai n ci).ownBlock := ⟨hB'.os.trans hB.os.symm, hB'.tape.trans hB.tape.symm, hB'.output.trans hB.output.symm, hK.1, fun k hk hne => hK.2 k hk hne⟩
 refine hbk hg (fun k hk => hR.1 k hk) ?_
 exact Kd.M_row (Kd.R_reok rfl hR' (fun k hk => hR.1 k hk))
set_option maxHeartbeats 8000000 in
set_option maxRecDepth 100000 in
theorem laws_markOpSS.calls (k : Nat) (P0_ : Nat → Prop) (u9000_ : Value) (l0 : List (List (S133))) (a1 : Int) (r1 : Int) (r2 : List (List (S133))) (w0 w : World) (hB : Below w0.heap.size w0 w) (ho0 : Kd.S (Kd.slice 133 k133) 107 w w0.heap.size P0_ u9000_ l0) (h : laws_markOpSS.f k l0 a1 = some (r1, r2)) :
  Calls Try.prog 100 #[u9000_, .int .i64 a1] w fun e w' => e = .returned (.int .i64 r1) ∧ Kd.S (Kd.slice 133 k133) 107 w' w0.heap.size P0_ u9000_ r2 ∧ Below w0.heap.size w0 w' ∧ Kept w w' (fun k_ => P0_ k_) := by
 have HO0 := Aside0.mk ho0
 have HK := Aside0.mk (Kept.refl w (fun k_ => P0_ k_))
 have HB := Aside0.mk hB
 clear hB ho0
 have H' : Aside0 ((laws_markOpSS.l0 k l0 a1 0) = some (r1, r2)) := ⟨h⟩
 clear h
 obtain ⟨A0, c0, e0⟩ := Kd.S_slice HO0.out
 subst e0
 go_enter Try.func100, Try.ntmps100
 go_wp2
 go_loopg [1, 5] k (fun kq v1 v5 w' => ∃ (x0_1 : List (List (S133))) (x1_1 : Int) (x5_1 : Int), v1 = .int .i64 x1_1 ∧ v5 = .int .i64 x5_1 ∧ Aside0 (laws_markOpSS.l0 kq x0_1 x1_1 x5_1 = some (r1, r2)) ∧ Aside0 (kq ≤ k) ∧ Aside0 (x0_1.length = l0.length) ∧ Aside0 (Kd.S (Kd.slice 133 k133) 107 w' w0.heap.size P0_ (.slice A0 l0.length c0) x0_1) ∧ Aside0 (Kept w w' (fun k_ => P0_ k_)) ∧ Aside0 (Below w0.heap.size w0 w'))
 case atStart => exact ⟨l0, a1, 0, rfl, rfl, H', ⟨Nat.le_refl _⟩, ⟨rfl⟩, HO0, HK, HB⟩
 case round =>
  clear H' HO0 HK HB
  obtain ⟨x0_1, x1_1, x5_1, rfl, rfl, HA, HK1, HL, HO, HK, HB⟩ := hrel
  cases gk with
  | zero => exact absurd HA.out (by simp [laws_markOpSS.l0])
  | succ k1 =>
   have H := HA.out
   clear HA
   simp only [laws_markOpSS.l0] at H
   by_cases c3 : x5_1 < (x0_1.length : Int)
   rotate_left
   ·rw [if_neg c3] at H
    have c3b0 : decide (x5_1 < (l0.length : Int)) = false := decide_eq_false (by have := HL.out; omega)
    simp only [Option.some.injEq, Prod.mk.injEq] at H
    obtain ⟨rfl, rfl⟩ := H
    clear c3
    go_wp2
    go_ret
    exact ⟨rfl, HO.out, HB.out, HK.out⟩
   rw [if_pos c3] at H
   by_cases c4 : 0 ≤ x5_1
   rotate_left
   ·rw [if_neg c4] at H
    exact absurd H (by simp)
   rw [if_pos c4] at H
   obtain ⟨⟨t1, t2⟩, A1, H⟩ := Option.bind_eq_some_iff.mp H
   have c3l : x5_1 < (l0.length : Int) := by have := HL.out; omega
   have c3b0 : decide (x5_1 < (l0.length : Int)) = true := decide_eq_true c3l
   have c4b := eq_true c4
   have c3t := eq_true c3l
   obtain ⟨go, co, eo, gb, gl, cl, HG⟩ := Kd.S_form HO.out (by omega)
   have HL' := HL.out
   obtain ⟨rfl, rfl⟩ : A0 = some ⟨go, 0, none⟩ ∧ c0 = co := by
    injection eo with e1 e2 e3
    exact ⟨e1, e3⟩
   have HO2 := Aside0.mk (show Kd.S (Kd.slice 133 k133) 107 wr w0.heap.size P0_ (.slice (some ⟨go, 0, none⟩) x0_1.length c0) x0_1 from by rw [HL']; exact HO.out)
   obtain ⟨oki, ce, hcl, hM, hcc, hok, hbk⟩ := Kd.S_borrow HO2.out ([] : List (S133)) x5_1 c4 c3
   obtain ⟨ve, rfl, hR⟩ := hM
   have hv := hcc 0 _ rfl
   obtain ⟨Ai, ci, ei⟩ := Kd.R_slice hR
   have ez : (⟨go, 0, none⟩ : Addr).add (x5_1.toNat * (Kd.slice 133 k133).sz + 0) = ⟨go, x5_1.toNat, none⟩ := by
    rw [Nat.add_zero, show (Kd.slice 133 k133).sz = 1 from rfl, Nat.mul_one]
    first | rfl | (simp only [add_plain]; done) | simp [Addr.add]
   rw [ez] at hv
   obtain ⟨ys, hys⟩ : ∃ ys : List (S133), ys = x0_1.getD x5_1.toNat [] := ⟨_, rfl⟩
   rw [← hys] at hR A1 ei
   subst ei
   have HR := Aside0.mk hR
   have HBK := Aside0.mk (fun (w' : World) (zs : List (S133)) (hB' : Below w0.heap.size w0 w') hR' hK => laws_markOpSS.step (zs := zs) HB.out hB' hbk hR hR' hK)
   have HOK := Aside0.mk (fun k_ (e_ : some k_ = (Value.slice Ai ys.length ci).ownBlock) => (hok k_ (hR.1 k_ e_.symm)).1)
   have HCA := Aside0.mk (laws_markOpS.calls k1 (fun k_ => some k_ = (Value.slice Ai ys.length ci).ownBlock) (.slice Ai ys.length ci) ys x1_1 t1 t2 w0 wr HB.out (Kd.R_tight rfl hR) A1)
   have H' := Aside0.mk H
   have HYS := Aside0.mk hys
   clear H A1 hbk hok hR hcc hcl HG gb gl cl eo c3 c4 c3l HL' ez hys
   go_wp2_with (go_at_call 153; (with_reducible refine (HCA.out).mono ?_); rintro e w' ⟨rfl, hi, hb, hk⟩; have n0 := Aside0.mk (HBK.out w' t2 hb hi hk); have n1 := Aside0.mk hb; have n2 := Aside0.mk (show Kept w w' (fun k_ => P0_ k_) from ⟨Nat.le_trans HK.out.1 hk.1, fun i hi_ hn_ => (hk.2 i (Nat.lt_of_lt_of_le hi_ HK.out.1) (fun e_ => hn_ (HOK.out i e_))).trans (HK.out.2 i hi_ hn_)⟩); clear hi hb hk HB HK; have HB := n1; have HK := n2; clear n1 n2)
   go_roundg k1
   case measure => have := HK1.out; omega
   case rel =>
    refine ⟨x0_1.set x5_1.toNat t2, t1, wrap64 (x5_1 + 1), (by first | rfl | (simp; done)), (by first | rfl | (simp; done)), H', ⟨by have := HK1.out; omega⟩, ⟨by rw [List.length_set]; exact HL.out⟩, ⟨?_⟩, HK, HB⟩
    have h_ := n0.out
    rw [HL.out] at h_
    exact h_

/-! ### laws_markJobShop: function 37 -/
def laws_markJobShop.f (k : Nat) (l0 : List (List (S133))) (a1 : Int) : Option (Int × List (List (S133))) := laws_markOpSS.f k l0 a1
theorem laws_markJobShop.mono : ∀ a0 a1 k, LeO (laws_markJobShop.f k a0 a1) (laws_markJobShop.f (k + 1) a0 a1) := fun a0 a1 k => laws_markOpSS.mono a0 a1 k
set_option maxHeartbeats 8000000 in
set_option maxRecDepth 100000 in
theorem laws_markJobShop.calls (k : Nat) (P0_ : Nat → Prop) (a0_0 : Int) (u9000_ : Value) (l0 : List (List (S133))) (a1 : Int) (r1 : Int) (r2 : List (List (S133))) (w0 w : World) (hB : Below w0.heap.size w0 w) (ho0 : Kd.S (Kd.slice 133 k133) 107 w w0.heap.size P0_ u9000_ l0) (h : laws_markJobShop.f k l0 a1 = some (r1, r2)) :
 Calls Try.prog 37 #[.agg #[.int .i64 a0_0, u9000_], .int .i64 a1] w fun e w' => e = .returned (.int .i64 r1) ∧ Kd.S (Kd.slice 133 k133) 107 w' w0.heap.size P0_ u9000_ r2 ∧ Below w0.heap.size w0 w' ∧ Kept w w' (fun k_ => P0_ k_) := by
 have hu := Try.underlying51
 have HO0 := Aside0.mk ho0
 have HB := Aside0.mk hB
 have A1 := Aside0.mk (show laws_markOpSS.f k l0 a1 = some (r1, r2) from h)
 clear hB ho0 h
 obtain ⟨A0, c0, e0⟩ := Kd.S_slice HO0.out
 subst e0
 have HC := fun (w5 : World) (hb : Below w.heap.size w w5) => laws_markOpSS.calls k P0_ (.slice A0 l0.length c0) l0 a1 r1 r2 w0 w5 (below_step HB.out hb) (Kd.S_below HO0.out hb) A1.out
 have HCC := Aside0.mk HC
 clear HC
 go_enter Try.func37, Try.ntmps37
 go_wp2_with ((with_reducible refine gate_dst (N := 2) rfl ?_); refine box_event ?hg (N := 2) ?hd (cs := #[.int .i64 a0_0, .slice A0 l0.length c0]) (t := 51) ?hr ?_; (case hd => rfl); (case hg => rfl); (case hr => first | (go_simp; done) | (go_simp; rfl)); intro gb632 hg w6 hbox hb; have HB2 := Aside0.mk hb; have BK632 := Aside0.mk hbox; clear hb hbox hg; obtain ⟨hcz9_0, hcz9_1, hfz9_0, hfz9_1⟩ := bz2 BK632.out)
 go_wp2_with (go_at_call 100; (with_reducible refine (HCC.out _ HB2.out).mono ?_); rintro e w' ⟨rfl, hi, hb, hk⟩; have n0 := Aside0.mk hi; have n1 := Aside0.mk hb; have n2 := Aside0.mk (show Kept w w' (fun k_ => P0_ k_) from ⟨Nat.le_trans HB2.out.size hk.1, fun i hi_ hn_ => (hk.2 i (Nat.lt_of_lt_of_le hi_ HB2.out.size) hn_).trans (HB2.out.block i hi_)⟩); clear hi hb hk)
 go_ret
 exact ⟨rfl, n0.out, n1.out, n2.out⟩

end Go.Proofs.Ytgpnophjbibhhaa.X
