-- Written by a program of this session (wip/gen/xp.py, over the kit's printer). Not trusted: Lean checks it.
import Derived.Test.YtdnphdbahhfcgaaX0
import Derived.Test.YtdnphdbahhfcgaaXf6
namespace Go.Proofs.Ytdnphdbahhfcgaa.X
open Go.RowKit Go.Proofs.YtdnphdbahhfcgaaW.PrintWords Go.Proofs.YtdnphdbahhfcgaaW.PrintLast Go.Proofs.YtdnphdbahhfcgaaW.PrintMore
attribute [local go_sem] max2_int min2_int max_two min_two max_three min_three max_four min_four   -- for this text's walks alone
set_option linter.unusedVariables false
set_option linter.unusedSimpArgs false

/-! ### impl_IsJobShop: function 17 -/
mutual
def impl_IsJobShop.j0 : Nat → Bool → Int → List (List (S62)) → Option (Bool)
 | 0, _, _, _ => none
 | k + 1, x18, x248000, x248001 => if x18 = true then (some false) else (impl_IsJobShop.l0 k 0 x248001 (x248001.length : Int) 0 x248000 x248001)
def impl_IsJobShop.l0 : Nat → Int → List (List (S62)) → Int → Int → Int → List (List (S62)) → Option (Bool)
 | 0, _, _, _, _, _, _ => none
 | k + 1, x3, x20, x21, x22, x248000, x248001 => if x22 < x21 then (if 0 ≤ x22 then (if x22 < (x20.length : Int) then (impl_IsJobShop.l1 k x3 (rd_L5 x20 x22) ([] : List Int) x20 x21 x22 (rd_L5 x20 x22) ((rd_L5 x20 x22).length : Int) 0 x248000 x248001) else (none)) else (none)) else (some (decide (x3 ≤ 12)))
def impl_IsJobShop.l1 : Nat → Int → List (S62) → List Int → List (List (S62)) → Int → Int → List (S62) → Int → Int → Int → List (List (S62)) → Option (Bool)
 | 0, _, _, _, _, _, _, _, _, _, _, _ => none
 | k + 1, x3, x5, x6, x20, x21, x22, x26, x27, x28, x248000, x248001 => if x28 < x27 then (if 0 ≤ x28 then (if x28 < (x26.length : Int) then ((impl_isNumber.f ((rd_T62 x26 x28).f0) x248000).bind fun t252 => (if t252 = true then ((impl_within.f ((rd_T62 x26 x28).f1) 1 20).bind fun t253 => (if t253 = true then ((impl_has.f k x6 ((rd_T62 x26 x28).f0)).bind fun t254 => (if t254 = true then (some false) else (if x6.length < 17592186044416 then (impl_IsJobShop.l1 k x3 x5 (x6 ++ [(rd_T62 x26 x28).f0]) x20 x21 x22 x26 x27 (wrap64 (x28 + 1)) x248000 x248001) else (none)))) else (some false))) else (some false))) else (none)) else (none)) else (impl_IsJobShop.l0 k (wrap64 (x3 + (x5.length : Int))) x20 x21 (wrap64 (x22 + 1)) x248000 x248001)
end
def impl_IsJobShop.f (k : Nat) (a0_0 : Int) (l0_1 : List (List (S62))) : Option (Bool) := (impl_within.f a0_0 1 4).bind fun t248 => (if t248 = true then (impl_IsJobShop.j0 k (decide ((l0_1.length : Int) > 4)) a0_0 l0_1) else (impl_IsJobShop.j0 k true a0_0 l0_1))
theorem impl_IsJobShop.mono_l : ∀ k, (∀ y0 y1 y2, LeO (impl_IsJobShop.j0 k y0 y1 y2) (impl_IsJobShop.j0 (k + 1) y0 y1 y2)) ∧ (∀ y0 y1 y2 y3 y4 y5, LeO (impl_IsJobShop.l0 k y0 y1 y2 y3 y4 y5) (impl_IsJobShop.l0 (k + 1) y0 y1 y2 y3 y4 y5)) ∧ (∀ y0 y1 y2 y3 y4 y5 y6 y7 y8 y9 y10, LeO (impl_IsJobShop.l1 k y0 y1 y2 y3 y4 y5 y6 y7 y8 y9 y10) (impl_IsJobShop.l1 (k + 1) y0 y1 y2 y3 y4 y5 y6 y7 y8 y9 y10))
 | 0 => ⟨fun _ _ _ r h => by simp [impl_IsJobShop.j0] at h, fun _ _ _ _ _ _ r h => by simp [impl_IsJobShop.l0] at h, fun _ _ _ _ _ _ _ _ _ _ _ r h => by simp [impl_IsJobShop.l1] at h⟩
 | k + 1 => by
  obtain ⟨ih0, ih1, ih2⟩ := impl_IsJobShop.mono_l k
  refine ⟨?_, ?_, ?_⟩
  ·intro y0 y1 y2
   unfold impl_IsJobShop.j0
   repeat' first
   | (with_reducible exact ih0 _ _ _)
   | (with_reducible exact ih1 _ _ _ _ _ _)
   | (with_reducible exact ih2 _ _ _ _ _ _ _ _ _ _ _)
   | (with_reducible exact impl_has.mono _ _ _)
   | (with_reducible exact LeO.refl _)
   | (with_reducible exact LeO.none _)
   | (with_reducible refine LeO.ite ?_ ?_)
   | (with_reducible refine LeO.bind ?_ (fun _ => ?_))
   | exact ih0 _ _ _
   | exact ih1 _ _ _ _ _ _
   | exact ih2 _ _ _ _ _ _ _ _ _ _ _
   | exact impl_has.mono _ _ _
   | exact LeO.none _
   | refine LeO.ite ?_ ?_
   | refine LeO.bind ?_ (fun _ => ?_)
  ·intro y0 y1 y2 y3 y4 y5
   unfold impl_IsJobShop.l0
   repeat' first
   | (with_reducible exact ih0 _ _ _)
   | (with_reducible exact ih1 _ _ _ _ _ _)
   | (with_reducible exact ih2 _ _ _ _ _ _ _ _ _ _ _)
   | (with_reducible exact impl_has.mono _ _ _)
   | (with_reducible exact LeO.refl _)
   | (with_reducible exact LeO.none _)
   | (with_reducible refine LeO.ite ?_ ?_)
   | (with_reducible refine LeO.bind ?_ (fun _ => ?_))
   | exact ih0 _ _ _
   | exact ih1 _ _ _ _ _ _
   | exact ih2 _ _ _ _ _ _ _ _ _ _ _
   | exact impl_has.mono _ _ _
   | exact LeO.none _
   | refine LeO.ite ?_ ?_
   | refine LeO.bind ?_ (fun _ => ?_)
  ·intro y0 y1 y2 y3 y4 y5 y6 y7 y8 y9 y10
   unfold impl_IsJobShop.l1
   repeat' first
   | (with_reducible exact ih0 _ _ _)
   | (with_reducible exact ih1 _ _ _ _ _ _)
   | (with_reducible exact ih2 _ _ _ _ _ _ _ _ _ _ _)
   | (with_reducible exact impl_has.mono _ _ _)
   | (with_reducible exact LeO.refl _)
   | (with_reducible exact LeO.none _)
   | (with_reducible refine LeO.ite ?_ ?_)
   | (with_reducible refine LeO.bind ?_ (fun _ => ?_))
   | exact ih0 _ _ _
   | exact ih1 _ _ _ _ _ _
   | exact ih2 _ _ _ _ _ _ _ _ _ _ _
   | exact impl_has.mono _ _ _
   | exact LeO.none _
   | refine LeO.ite ?_ ?_
   | refine LeO.bind ?_ (fun _ => ?_)
theorem impl_IsJobShop.mono : ∀ a0 a1 k, LeO (impl_IsJobShop.f k a0 a1) (impl_IsJobShop.f (k + 1) a0 a1) := by
 intro a0 a1 k
 obtain ⟨ih0, ih1, ih2⟩ := impl_IsJobShop.mono_l k
 unfold impl_IsJobShop.f
 repeat' first
   | (with_reducible exact ih0 _ _ _)
   | (with_reducible exact ih1 _ _ _ _ _ _)
   | (with_reducible exact ih2 _ _ _ _ _ _ _ _ _ _ _)
   | (with_reducible exact impl_has.mono _ _ _)
   | (with_reducible exact LeO.refl _)
   | (with_reducible exact LeO.none _)
   | (with_reducible refine LeO.ite ?_ ?_)
   | (with_reducible refine LeO.bind ?_ (fun _ => ?_))
   | exact ih0 _ _ _
   | exact ih1 _ _ _ _ _ _
   | exact ih2 _ _ _ _ _ _ _ _ _ _ _
   | exact impl_has.mono _ _ _
   | exact LeO.none _
   | refine LeO.ite ?_ ?_
   | refine LeO.bind ?_ (fun _ => ?_)
set_option maxHeartbeats 8000000 in
set_option maxRecDepth 100000 in
theorem impl_IsJobShop.calls (k : Nat) (a0_0 : Int) (A0_1 : Option Addr) (c0_1 : Nat) (l0_1 : List (List (S62))) (r : Bool) (w : World) (hr0_1 : Kd.C (Kd.slice 62 k62) w A0_1 l0_1.length l0_1) (hc0_1 : l0_1.length ≤ c0_1) (h : impl_IsJobShop.f k a0_0 l0_1 = some r) :
  Calls Try.prog 17 #[.agg #[.int .i64 a0_0, .slice A0_1 l0_1.length c0_1]] w fun e w' => e = .returned (.bool r) ∧ Below w.heap.size w w' := by
 have hu32 := Try.underlying32
 have hu62 := Try.underlying62
 have HR0_1 := Aside0.mk hr0_1
 have HC0_1 := Aside0.mk hc0_1
 clear hr0_1 hc0_1
 have HB := Aside0.mk (Below.refl w.heap.size w)
 have H : ((impl_within.f a0_0 1 4).bind fun t248 => (if t248 = true then (impl_IsJobShop.j0 k (decide ((l0_1.length : Int) > 4)) a0_0 l0_1) else (impl_IsJobShop.j0 k true a0_0 l0_1))) = some r := h
 clear h
 have HC2 := Aside0.mk H
 clear H
 go_enter Try.func17, Try.ntmps17
 go_upto_region 1 with (first | ((with_reducible refine gate_dst (N := 1) rfl ?_); (try (refine gate_guard (by rfl) ?_; dsimp only)); refine box_event ?hg (N := 1) ?hd (cs := #[.int .i64 a0_0, .slice A0_1 l0_1.length c0_1]) (t := 32) ?hr ?_; (case hd => rfl); (case hg => rfl); (case hr => first | (go_simp; done) | (go_simp; rfl)); intro gb247 hg w3 hbox hb; have n0_ := Aside0.mk (below_step (bw HB.out) hb); have n1_ := Aside0.mk (hbox); have n2_ := ge_ hg HB.out; have n3_ := ge_ hg HB.out; replace HB := n0_; have BK247 := n1_; have GW247 := n2_; have GE247 := n3_; clear n0_ n1_ n2_ n3_; clear hb hbox hg))
 (try simp only [Act.put, List.setIfInBounds_toArray, List.set_cons_zero, List.set_cons_succ])
 go_cut [18] (fun v18 wc => ∃ (kq : Nat) (x18_1 : Bool), v18 = .bool x18_1 ∧ Aside0 (impl_IsJobShop.j0 kq x18_1 a0_0 l0_1 = some r) ∧ Aside0 (kq ≤ k) ∧ Aside0 (wc.heap[gb247]? = some (.cells #[.int .i64 a0_0, (.slice A0_1 l0_1.length c0_1)] 32 (0, 0))) ∧ Aside0 (Below w.heap.size w wc))
 case first =>
  have H := HC2.out
  clear HC2
  replace H := Option.bind_eq_some_iff.mp H
  obtain ⟨t248, A40, H⟩ := H
  replace H : (if t248 = true then (impl_IsJobShop.j0 k (decide ((l0_1.length : Int) > 4)) a0_0 l0_1) else (impl_IsJobShop.j0 k true a0_0 l0_1)) = some r := H
  have A4 := Aside0.mk A40
  clear A40
  by_cases c5 : t248 = true
  ·subst c5
   have H1 : (impl_IsJobShop.j0 k (decide ((l0_1.length : Int) > 4)) a0_0 l0_1) = some r := by rw [if_pos rfl] at H; exact H
   clear H
   have H := H1
   clear H1
   have H' := Aside0.mk H
   clear H
   obtain ⟨hcz6_0, hcz6_1, hfz6_0, hfz6_1⟩ := bz2 BK247.out
   go_wp2_with (first | ((with_reducible refine gate_callee (f := 29) rfl ?_); refine goesL_ (some 11) rfl rfl Try.func29 (by kernel_rfl) rfl #[.int .i64 a0_0, .int .i64 1, .int .i64 4] rfl (by (try simp only [mA_]); first | done | rfl | (simp only [List.length_drop, List.length_take]; rfl)) ?_; (with_reducible refine (impl_within.calls a0_0 1 4 true _ A4.out).mono ?_); rintro e w' ⟨rfl, ⟨nd, rfl⟩⟩; refine ⟨_, rfl, ?_⟩))
   go_meet
   case rel => exact ⟨_, (decide ((l0_1.length : Int) > 4)), (by first | rfl | (simp; done) | (simp [*]; done)), H', ⟨by first | omega | exact Nat.le_refl _⟩, ⟨bs BK247.out⟩, ⟨by repeat (first | (with_reducible first | exact bw HB.out | refine bset ?_ | apply bA | apply bN | apply bD) | exact HB.out)⟩⟩
  replace c5 := Bool.eq_false_iff.mpr c5
  subst c5
  have H1 : (impl_IsJobShop.j0 k true a0_0 l0_1) = some r := by rw [if_neg (show ¬ (false = true) by decide)] at H; exact H
  clear H
  have H := H1
  clear H1
  have H' := Aside0.mk H
  clear H
  obtain ⟨hcz7_0, hcz7_1, hfz7_0, hfz7_1⟩ := bz2 BK247.out
  go_wp2_with (first | ((with_reducible refine gate_callee (f := 29) rfl ?_); refine goesL_ (some 11) rfl rfl Try.func29 (by kernel_rfl) rfl #[.int .i64 a0_0, .int .i64 1, .int .i64 4] rfl (by (try simp only [mA_]); first | done | rfl | (simp only [List.length_drop, List.length_take]; rfl)) ?_; (with_reducible refine (impl_within.calls a0_0 1 4 false _ A4.out).mono ?_); rintro e w' ⟨rfl, ⟨nd, rfl⟩⟩; refine ⟨_, rfl, ?_⟩))
  go_meet
  case rel => exact ⟨_, (true), (by first | rfl | (simp; done) | (simp [*]; done)), H', ⟨by first | omega | exact Nat.le_refl _⟩, ⟨bs BK247.out⟩, ⟨by repeat (first | (with_reducible first | exact bw HB.out | refine bset ?_ | apply bA | apply bN | apply bD) | exact HB.out)⟩⟩
 case rest =>
  clear HC2
  try clear c1
  try clear c2
  try clear p2
  try clear c5
  try clear hcz6_0
  try clear hcz6_1
  try clear hcz7_0
  try clear hcz7_1
  try clear hfz6_0
  try clear hfz6_1
  try clear hfz7_0
  try clear hfz7_1
  obtain ⟨kq, x18_1, rfl, HA, HJ1, BK247, HB⟩ := hcut
  cases kq with
  | zero => exact absurd HA.out (by simp [impl_IsJobShop.j0])
  | succ kj1 =>
   have H := HA.out
   clear HA
   simp only [impl_IsJobShop.j0] at H
   by_cases c8 : x18_1 = true
   ·subst c8
    have H1 : (some false) = some r := by rw [if_pos rfl] at H; exact H
    clear H
    have H := H1
    clear H1
    obtain rfl := Option.some.inj H
    go_wp2
    go_ret
    exact ⟨by first | rfl | (simp [errW_none, errW_some] <;> rfl) | (simp [*, errW_none, errW_some] <;> rfl), by repeat (first | (with_reducible first | exact bw HB.out | refine bset ?_ | apply bA | apply bN | apply bD) | exact HB.out)⟩
   replace c8 := Bool.eq_false_iff.mpr c8
   subst c8
   have H1 : (impl_IsJobShop.l0 kj1 0 l0_1 (l0_1.length : Int) 0 a0_0 l0_1) = some r := by rw [if_neg (show ¬ (false = true) by decide)] at H; exact H
   clear H
   have H := H1
   clear H1
   have H' := Aside0.mk H
   clear H
   obtain ⟨hcz9_0, hcz9_1, hfz9_0, hfz9_1⟩ := bz2 BK247.out
   go_wp2
   go_loopg [3, 22] kj1 (fun kq v3 v22 w' => ∃ (x3_2 : Int) (x22_2 : Int), v3 = .int .i64 x3_2 ∧ v22 = .int .i64 x22_2 ∧ Aside0 (impl_IsJobShop.l0 kq x3_2 l0_1 (l0_1.length : Int) x22_2 a0_0 l0_1 = some r) ∧ Aside0 (kq ≤ kj1) ∧ Aside0 (w'.heap[gb247]? = some (.cells #[.int .i64 a0_0, (.slice A0_1 l0_1.length c0_1)] 32 (0, 0))) ∧ Aside0 (Below w.heap.size w w'))
   case atStart => exact ⟨(0), (0), (by first | rfl | (simp; done) | (simp [*]; done)), (by first | rfl | (simp; done) | (simp [*]; done)), H', ⟨Nat.le_refl _⟩, ⟨bs BK247.out⟩, ⟨by repeat (first | (with_reducible first | exact bw HB.out | refine bset ?_ | apply bA | apply bN | apply bD) | exact HB.out)⟩⟩
   case round =>
    clear H'
    try clear c1
    try clear c2
    try clear p2
    try clear c5
    try clear c8
    try clear hcz6_0
    try clear hcz6_1
    try clear hcz7_0
    try clear hcz7_1
    try clear hcz9_0
    try clear hcz9_1
    try clear hfz6_0
    try clear hfz6_1
    try clear hfz7_0
    try clear hfz7_1
    try clear hfz9_0
    try clear hfz9_1
    try clear p2
    obtain ⟨x3_2, x22_2, rfl, rfl, HA, HK2, BK247, HB⟩ := hrel
    cases gk with
    | zero => exact absurd HA.out (by simp [impl_IsJobShop.l0])
    | succ k2 =>
     have H := HA.out
     clear HA
     simp only [impl_IsJobShop.l0] at H
     by_cases c10 : x22_2 < (l0_1.length : Int)
     rotate_left
     ·rw [if_neg c10] at H
      have c10b0 : decide (x22_2 < (l0_1.length : Int)) = false := decide_eq_false c10
      clear c10
      obtain rfl := Option.some.inj H
      go_wp2
      go_ret
      exact ⟨by first | rfl | (simp [errW_none, errW_some] <;> rfl) | (simp [*, errW_none, errW_some] <;> rfl), by repeat (first | (with_reducible first | exact bw HB.out | refine bset ?_ | apply bA | apply bN | apply bD) | exact HB.out)⟩
     rw [if_pos c10] at H
     have c10b0 : decide (x22_2 < (l0_1.length : Int)) = true := decide_eq_true c10
     clear c10
     by_cases c11 : 0 ≤ x22_2
     rotate_left
     ·rw [if_neg c11] at H
      exact absurd H (by simp)
     rw [if_pos c11] at H
     have c11b0 : decide (0 ≤ x22_2) = true := decide_eq_true c11
     clear c11
     by_cases c12 : x22_2 < (l0_1.length : Int)
     rotate_left
     ·rw [if_neg c12] at H
      exact absurd H (by simp)
     rw [if_pos c12] at H
     have c12b0 : decide (x22_2 < (l0_1.length : Int)) = true := decide_eq_true c12
     clear c12
     have H' := Aside0.mk H
     clear H
     have p249 : 0 ≤ (x22_2 : Int) := of_decide_eq_true (by first | (with_reducible assumption) | assumption)
     have q249 : x22_2 < (l0_1.length : Int) := of_decide_eq_true (by first | (with_reducible assumption) | assumption)
     obtain ⟨ad249, A249_0, c249_0, e249, hx249_0, hl249_0, hi249_0⟩ := at_L5 HR0_1.out x22_2 p249 q249
     cases e249
     replace hx249_0 := (HB.out.cell (World.block_lt_of_cell? w _ hx249_0)).trans hx249_0
     have HR249_0 := Aside0.mk hi249_0
     have HC249_0 := Aside0.mk hl249_0
     clear hi249_0 hl249_0
     replace p249 := eq_true p249
     replace q249 := eq_true q249
     go_wp2
     go_loopg [6, 28] k2 (fun kq v6 v28 w' => ∃ (x6_3 : List Int) (x28_3 : Int), v28 = .int .i64 x28_3 ∧ Aside0 (impl_IsJobShop.l1 kq x3_2 (rd_L5 l0_1 x22_2) x6_3 l0_1 (l0_1.length : Int) x22_2 (rd_L5 l0_1 x22_2) ((rd_L5 l0_1 x22_2).length : Int) x28_3 a0_0 l0_1 = some r) ∧ Aside0 (kq ≤ k2) ∧ Aside0 (Kd.R (Kd.int .i64) 3 w' w.heap.size (fun _ => True) v6 x6_3) ∧ Aside0 (w'.heap[gb247]? = some (.cells #[.int .i64 a0_0, (.slice (some ad249) l0_1.length c0_1)] 32 (0, 0))) ∧ Aside0 (Below w.heap.size w w'))
     case atStart => exact ⟨(([] : List Int)), (0), (by first | rfl | (simp; done) | (simp [*]; done)), H', ⟨Nat.le_refl _⟩, ⟨by first | exact Kd.R_nil _ _ _ _ _ | exact Kd.N_nil _ _ _ _ _ | exact Kd.V_nil _ _ _ _ _ | exact Kd.Q_nil _ _ _ _ _ | exact Kd.S_nil _ _ _ _ _⟩, ⟨bs BK247.out⟩, ⟨by repeat (first | (with_reducible first | exact bw HB.out | refine bset ?_ | apply bA | apply bN | apply bD) | exact HB.out)⟩⟩
     case round =>
      clear H'
      try clear c1
      try clear c2
      try clear p2
      try clear q2
      try clear hx2
      try clear c5
      try clear c8
      try clear c10
      try clear c10b0
      try clear c11
      try clear c11b0
      try clear c12
      try clear c12b0
      try clear hcz6_0
      try clear hcz6_1
      try clear hcz7_0
      try clear hcz7_1
      try clear hcz9_0
      try clear hcz9_1
      try clear hfz6_0
      try clear hfz6_1
      try clear hfz7_0
      try clear hfz7_1
      try clear hfz9_0
      try clear hfz9_1
      try clear hx249_0
      try clear p2
      try clear p249
      try clear q249
      obtain ⟨x6_3, x28_3, rfl, HA, HK3, HO_6, BK247, HB⟩ := hrel
      cases gk with
      | zero => exact absurd HA.out (by simp [impl_IsJobShop.l1])
      | succ k3 =>
       have H := HA.out
       clear HA
       simp only [impl_IsJobShop.l1] at H
       by_cases c13 : x28_3 < ((rd_L5 l0_1 x22_2).length : Int)
       rotate_left
       ·rw [if_neg c13] at H
        have c13b0 : decide (x28_3 < ((rd_L5 l0_1 x22_2).length : Int)) = false := decide_eq_false c13
        clear c13
        have H' := Aside0.mk H
        clear H
        go_wp2
        go_roundg k3
        case measure => have := HJ1.out; have := HK2.out; have := HK3.out; omega
        case rel => exact ⟨(wrap64 (x3_2 + ((rd_L5 l0_1 x22_2).length : Int))), (wrap64 (x22_2 + 1)), (by first | rfl | (simp; done) | (simp [*]; done)), (by first | rfl | (simp; done) | (simp [*]; done)), H', ⟨by have := HJ1.out; have := HK2.out; have := HK3.out; omega⟩, ⟨bs BK247.out⟩, ⟨by repeat (first | (with_reducible first | exact bw HB.out | refine bset ?_ | apply bA | apply bN | apply bD) | exact HB.out)⟩⟩
       rw [if_pos c13] at H
       have c13b0 : decide (x28_3 < ((rd_L5 l0_1 x22_2).length : Int)) = true := decide_eq_true c13
       clear c13
       by_cases c14 : 0 ≤ x28_3
       rotate_left
       ·rw [if_neg c14] at H
        exact absurd H (by simp)
       rw [if_pos c14] at H
       have c14b0 : decide (0 ≤ x28_3) = true := decide_eq_true c14
       clear c14
       by_cases c15 : x28_3 < ((rd_L5 l0_1 x22_2).length : Int)
       rotate_left
       ·rw [if_neg c15] at H
        exact absurd H (by simp)
       rw [if_pos c15] at H
       have c15b0 : decide (x28_3 < ((rd_L5 l0_1 x22_2).length : Int)) = true := decide_eq_true c15
       clear c15
       replace H := Option.bind_eq_some_iff.mp H
       obtain ⟨t252, A160, H⟩ := H
       replace H : (if t252 = true then ((impl_within.f ((rd_T62 (rd_L5 l0_1 x22_2) x28_3).f1) 1 20).bind fun t253 => (if t253 = true then ((impl_has.f k3 x6_3 ((rd_T62 (rd_L5 l0_1 x22_2) x28_3).f0)).bind fun t254 => (if t254 = true then (some false) else (if x6_3.length < 17592186044416 then (impl_IsJobShop.l1 k3 x3_2 (rd_L5 l0_1 x22_2) (x6_3 ++ [(rd_T62 (rd_L5 l0_1 x22_2) x28_3).f0]) l0_1 (l0_1.length : Int) x22_2 (rd_L5 l0_1 x22_2) ((rd_L5 l0_1 x22_2).length : Int) (wrap64 (x28_3 + 1)) a0_0 l0_1) else (none)))) else (some false))) else (some false)) = some r := H
       have A16 := Aside0.mk A160
       clear A160
       by_cases c17 : t252 = true
       rotate_left
       ·replace c17 := Bool.eq_false_iff.mpr c17
        subst c17
        have H1 : (some false) = some r := by rw [if_neg (show ¬ (false = true) by decide)] at H; exact H
        clear H
        have H := H1
        clear H1
        obtain rfl := Option.some.inj H
        have p250 : 0 ≤ (x28_3 : Int) := of_decide_eq_true (by first | (with_reducible assumption) | assumption)
        have q250 : x28_3 < ((rd_L5 l0_1 x22_2).length : Int) := of_decide_eq_true (by first | (with_reducible assumption) | assumption)
        obtain ⟨ad250, e250, hx250_0, hx250_1⟩ := at_T62 HR249_0.out x28_3 p250 q250
        cases e250
        replace hx250_0 := (HB.out.cell (World.block_lt_of_cell? w _ hx250_0)).trans hx250_0
        replace hx250_1 := (HB.out.cell (World.block_lt_of_cell? w _ hx250_1)).trans hx250_1
        replace p250 := eq_true p250
        replace q250 := eq_true q250
        go_wp2_with (first | ((with_reducible refine gate_dst (N := 8) rfl ?_); (try (refine gate_guard (by rfl) ?_; dsimp only)); refine box_event ?hg (N := 8) ?hd (cs := #[.int .i64 0, .int .i64 0]) (t := 62) ?hr ?_; (case hd => rfl); (case hg => rfl); (case hr => first | (go_simp; done) | (go_simp; rfl)); intro gb251 hg w38 hbox hb; have n0_ := Aside0.mk (Kd.R_below (bR HO_6.out) hb); have n1_ := Aside0.mk (blk_below (bs BK247.out) hb); have n2_ := Aside0.mk (below_step (by repeat (first | (with_reducible first | exact bw HB.out | refine bset ?_ | apply bA | apply bN | apply bD) | exact HB.out)) hb); have n3_ := Aside0.mk (hbox); have n4_ := Aside0.mk ((by rw [hg]; exact (below_size (by repeat (first | (with_reducible first | exact bw HB.out | refine bset ?_ | apply bA | apply bN | apply bD) | exact HB.out))) : w.heap.size ≤ gb251)); have n5_ := Aside0.mk ((by rw [hg]; exact (below_size (by repeat (first | (with_reducible first | exact bw HB.out | refine bset ?_ | apply bA | apply bN | apply bD) | exact HB.out))) : w.heap.size ≤ gb251)); have n6_ := ne_ hg BK247.out; have n7_ := en_ hg BK247.out; replace HO_6 := n0_; replace BK247 := n1_; replace HB := n2_; have BK251 := n3_; have GW251 := n4_; have GE251 := n5_; have NB247_251 := n6_; have NB251_247 := n7_; clear n0_ n1_ n2_ n3_ n4_ n5_ n6_ n7_; clear hb hbox hg; have hnb39 := NB251_247.out; have hnc39 := NB247_251.out; obtain ⟨hcz40_0, hcz40_1, hfz40_0, hfz40_1⟩ := bz2 BK251.out; obtain ⟨hcz41_0, hcz41_1, hfz41_0, hfz41_1⟩ := bz2 BK247.out) | ((with_reducible refine gate_callee (f := 30) rfl ?_); refine goesL_ (some 36) rfl rfl Try.func30 (by kernel_rfl) rfl #[.int .i64 ((rd_T62 (rd_L5 l0_1 x22_2) x28_3).f0), .int .i64 a0_0] rfl (by (try simp only [mA_]); first | done | rfl | (simp only [List.length_drop, List.length_take]; rfl)) ?_; (with_reducible refine (impl_isNumber.calls ((rd_T62 (rd_L5 l0_1 x22_2) x28_3).f0) a0_0 false _ A16.out).mono ?_); rintro e w' ⟨rfl, ⟨nd, rfl⟩⟩; refine ⟨_, rfl, ?_⟩))
        go_ret
        exact ⟨by first | rfl | (simp [errW_none, errW_some] <;> rfl) | (simp [*, errW_none, errW_some] <;> rfl), by repeat (first | (with_reducible first | exact bw HB.out | refine bset ?_ | apply bA | apply bN | apply bD) | exact HB.out)⟩
       subst c17
       have H1 : ((impl_within.f ((rd_T62 (rd_L5 l0_1 x22_2) x28_3).f1) 1 20).bind fun t253 => (if t253 = true then ((impl_has.f k3 x6_3 ((rd_T62 (rd_L5 l0_1 x22_2) x28_3).f0)).bind fun t254 => (if t254 = true then (some false) else (if x6_3.length < 17592186044416 then (impl_IsJobShop.l1 k3 x3_2 (rd_L5 l0_1 x22_2) (x6_3 ++ [(rd_T62 (rd_L5 l0_1 x22_2) x28_3).f0]) l0_1 (l0_1.length : Int) x22_2 (rd_L5 l0_1 x22_2) ((rd_L5 l0_1 x22_2).length : Int) (wrap64 (x28_3 + 1)) a0_0 l0_1) else (none)))) else (some false))) = some r := by rw [if_pos rfl] at H; exact H
       clear H
       have H := H1
       clear H1
       replace H := Option.bind_eq_some_iff.mp H
       obtain ⟨t253, A180, H⟩ := H
       replace H : (if t253 = true then ((impl_has.f k3 x6_3 ((rd_T62 (rd_L5 l0_1 x22_2) x28_3).f0)).bind fun t254 => (if t254 = true then (some false) else (if x6_3.length < 17592186044416 then (impl_IsJobShop.l1 k3 x3_2 (rd_L5 l0_1 x22_2) (x6_3 ++ [(rd_T62 (rd_L5 l0_1 x22_2) x28_3).f0]) l0_1 (l0_1.length : Int) x22_2 (rd_L5 l0_1 x22_2) ((rd_L5 l0_1 x22_2).length : Int) (wrap64 (x28_3 + 1)) a0_0 l0_1) else (none)))) else (some false)) = some r := H
       have A18 := Aside0.mk A180
       clear A180
       by_cases c19 : t253 = true
       rotate_left
       ·replace c19 := Bool.eq_false_iff.mpr c19
        subst c19
        have H1 : (some false) = some r := by rw [if_neg (show ¬ (false = true) by decide)] at H; exact H
        clear H
        have H := H1
        clear H1
        obtain rfl := Option.some.inj H
        have p250 : 0 ≤ (x28_3 : Int) := of_decide_eq_true (by first | (with_reducible assumption) | assumption)
        have q250 : x28_3 < ((rd_L5 l0_1 x22_2).length : Int) := of_decide_eq_true (by first | (with_reducible assumption) | assumption)
        obtain ⟨ad250, e250, hx250_0, hx250_1⟩ := at_T62 HR249_0.out x28_3 p250 q250
        cases e250
        replace hx250_0 := (HB.out.cell (World.block_lt_of_cell? w _ hx250_0)).trans hx250_0
        replace hx250_1 := (HB.out.cell (World.block_lt_of_cell? w _ hx250_1)).trans hx250_1
        replace p250 := eq_true p250
        replace q250 := eq_true q250
        go_wp2_with (first | ((with_reducible refine gate_dst (N := 8) rfl ?_); (try (refine gate_guard (by rfl) ?_; dsimp only)); refine box_event ?hg (N := 8) ?hd (cs := #[.int .i64 0, .int .i64 0]) (t := 62) ?hr ?_; (case hd => rfl); (case hg => rfl); (case hr => first | (go_simp; done) | (go_simp; rfl)); intro gb251 hg w34 hbox hb; have n0_ := Aside0.mk (Kd.R_below (bR HO_6.out) hb); have n1_ := Aside0.mk (blk_below (bs BK247.out) hb); have n2_ := Aside0.mk (below_step (by repeat (first | (with_reducible first | exact bw HB.out | refine bset ?_ | apply bA | apply bN | apply bD) | exact HB.out)) hb); have n3_ := Aside0.mk (hbox); have n4_ := Aside0.mk ((by rw [hg]; exact (below_size (by repeat (first | (with_reducible first | exact bw HB.out | refine bset ?_ | apply bA | apply bN | apply bD) | exact HB.out))) : w.heap.size ≤ gb251)); have n5_ := Aside0.mk ((by rw [hg]; exact (below_size (by repeat (first | (with_reducible first | exact bw HB.out | refine bset ?_ | apply bA | apply bN | apply bD) | exact HB.out))) : w.heap.size ≤ gb251)); have n6_ := ne_ hg BK247.out; have n7_ := en_ hg BK247.out; replace HO_6 := n0_; replace BK247 := n1_; replace HB := n2_; have BK251 := n3_; have GW251 := n4_; have GE251 := n5_; have NB247_251 := n6_; have NB251_247 := n7_; clear n0_ n1_ n2_ n3_ n4_ n5_ n6_ n7_; clear hb hbox hg; have hnb35 := NB251_247.out; have hnc35 := NB247_251.out; obtain ⟨hcz36_0, hcz36_1, hfz36_0, hfz36_1⟩ := bz2 BK251.out; obtain ⟨hcz37_0, hcz37_1, hfz37_0, hfz37_1⟩ := bz2 BK247.out) | ((with_reducible refine gate_callee (f := 30) rfl ?_); refine goesL_ (some 36) rfl rfl Try.func30 (by kernel_rfl) rfl #[.int .i64 ((rd_T62 (rd_L5 l0_1 x22_2) x28_3).f0), .int .i64 a0_0] rfl (by (try simp only [mA_]); first | done | rfl | (simp only [List.length_drop, List.length_take]; rfl)) ?_; (with_reducible refine (impl_isNumber.calls ((rd_T62 (rd_L5 l0_1 x22_2) x28_3).f0) a0_0 true _ A16.out).mono ?_); rintro e w' ⟨rfl, ⟨nd, rfl⟩⟩; refine ⟨_, rfl, ?_⟩) | (go_at_call 29; (with_reducible refine (impl_within.calls ((rd_T62 (rd_L5 l0_1 x22_2) x28_3).f1) 1 20 false _ A18.out).mono ?_); rintro e w' ⟨rfl, ⟨nd, rfl⟩⟩))
        go_ret
        exact ⟨by first | rfl | (simp [errW_none, errW_some] <;> rfl) | (simp [*, errW_none, errW_some] <;> rfl), by repeat (first | (with_reducible first | exact bw HB.out | refine bset ?_ | apply bA | apply bN | apply bD) | exact HB.out)⟩
       subst c19
       have H1 : ((impl_has.f k3 x6_3 ((rd_T62 (rd_L5 l0_1 x22_2) x28_3).f0)).bind fun t254 => (if t254 = true then (some false) else (if x6_3.length < 17592186044416 then (impl_IsJobShop.l1 k3 x3_2 (rd_L5 l0_1 x22_2) (x6_3 ++ [(rd_T62 (rd_L5 l0_1 x22_2) x28_3).f0]) l0_1 (l0_1.length : Int) x22_2 (rd_L5 l0_1 x22_2) ((rd_L5 l0_1 x22_2).length : Int) (wrap64 (x28_3 + 1)) a0_0 l0_1) else (none)))) = some r := by rw [if_pos rfl] at H; exact H
       clear H
       have H := H1
       clear H1
       replace H := Option.bind_eq_some_iff.mp H
       obtain ⟨t254, A200, H⟩ := H
       replace H : (if t254 = true then (some false) else (if x6_3.length < 17592186044416 then (impl_IsJobShop.l1 k3 x3_2 (rd_L5 l0_1 x22_2) (x6_3 ++ [(rd_T62 (rd_L5 l0_1 x22_2) x28_3).f0]) l0_1 (l0_1.length : Int) x22_2 (rd_L5 l0_1 x22_2) ((rd_L5 l0_1 x22_2).length : Int) (wrap64 (x28_3 + 1)) a0_0 l0_1) else (none))) = some r := H
       have A20 := Aside0.mk A200
       clear A200
       by_cases c21 : t254 = true
       ·subst c21
        have H1 : (some false) = some r := by rw [if_pos rfl] at H; exact H
        clear H
        have H := H1
        clear H1
        obtain rfl := Option.some.inj H
        have p250 : 0 ≤ (x28_3 : Int) := of_decide_eq_true (by first | (with_reducible assumption) | assumption)
        have q250 : x28_3 < ((rd_L5 l0_1 x22_2).length : Int) := of_decide_eq_true (by first | (with_reducible assumption) | assumption)
        obtain ⟨ad250, e250, hx250_0, hx250_1⟩ := at_T62 HR249_0.out x28_3 p250 q250
        cases e250
        replace hx250_0 := (HB.out.cell (World.block_lt_of_cell? w _ hx250_0)).trans hx250_0
        replace hx250_1 := (HB.out.cell (World.block_lt_of_cell? w _ hx250_1)).trans hx250_1
        replace p250 := eq_true p250
        replace q250 := eq_true q250
        go_wp2_with (first | ((with_reducible refine gate_dst (N := 8) rfl ?_); (try (refine gate_guard (by rfl) ?_; dsimp only)); refine box_event ?hg (N := 8) ?hd (cs := #[.int .i64 0, .int .i64 0]) (t := 62) ?hr ?_; (case hd => rfl); (case hg => rfl); (case hr => first | (go_simp; done) | (go_simp; rfl)); intro gb251 hg w22 hbox hb; have n0_ := Aside0.mk (Kd.R_below (bR HO_6.out) hb); have n1_ := Aside0.mk (blk_below (bs BK247.out) hb); have n2_ := Aside0.mk (below_step (by repeat (first | (with_reducible first | exact bw HB.out | refine bset ?_ | apply bA | apply bN | apply bD) | exact HB.out)) hb); have n3_ := Aside0.mk (hbox); have n4_ := Aside0.mk ((by rw [hg]; exact (below_size (by repeat (first | (with_reducible first | exact bw HB.out | refine bset ?_ | apply bA | apply bN | apply bD) | exact HB.out))) : w.heap.size ≤ gb251)); have n5_ := Aside0.mk ((by rw [hg]; exact (below_size (by repeat (first | (with_reducible first | exact bw HB.out | refine bset ?_ | apply bA | apply bN | apply bD) | exact HB.out))) : w.heap.size ≤ gb251)); have n6_ := ne_ hg BK247.out; have n7_ := en_ hg BK247.out; replace HO_6 := n0_; replace BK247 := n1_; replace HB := n2_; have BK251 := n3_; have GW251 := n4_; have GE251 := n5_; have NB247_251 := n6_; have NB251_247 := n7_; clear n0_ n1_ n2_ n3_ n4_ n5_ n6_ n7_; clear hb hbox hg; have hnb23 := NB251_247.out; have hnc23 := NB247_251.out; obtain ⟨hcz24_0, hcz24_1, hfz24_0, hfz24_1⟩ := bz2 BK251.out; obtain ⟨hcz25_0, hcz25_1, hfz25_0, hfz25_1⟩ := bz2 BK247.out) | ((with_reducible refine gate_callee (f := 30) rfl ?_); refine goesL_ (some 36) rfl rfl Try.func30 (by kernel_rfl) rfl #[.int .i64 ((rd_T62 (rd_L5 l0_1 x22_2) x28_3).f0), .int .i64 a0_0] rfl (by (try simp only [mA_]); first | done | rfl | (simp only [List.length_drop, List.length_take]; rfl)) ?_; (with_reducible refine (impl_isNumber.calls ((rd_T62 (rd_L5 l0_1 x22_2) x28_3).f0) a0_0 true _ A16.out).mono ?_); rintro e w' ⟨rfl, ⟨nd, rfl⟩⟩; refine ⟨_, rfl, ?_⟩) | (go_at_call 29; (with_reducible refine (impl_within.calls ((rd_T62 (rd_L5 l0_1 x22_2) x28_3).f1) 1 20 true _ A18.out).mono ?_); rintro e w' ⟨rfl, ⟨nd, rfl⟩⟩; obtain ⟨Ao26, co26, eo26⟩ := Kd.R_slice HO_6.out; subst eo26) | (go_at_call 31; (with_reducible refine (impl_has.calls k3 _ _ x6_3 ((rd_T62 (rd_L5 l0_1 x22_2) x28_3).f0) true _ ?side1 ?side2 A20.out).mono ?_); (case side1 => refine (Kd.R_reads' (e := 3) (base := w.heap.size) (ok := fun k_ => True) (n := x6_3.length) (c := co26) ?_).2.2; exact (by (with_reducible repeat (first | apply Kd.R_alloc | apply Kd.R_drewN | apply Kd.R_drew)); exact (Kd.R_mono (Kd.R_far (p := ⟨gb251, 1, none⟩) (Kd.R_far (p := ⟨gb251, 0, none⟩) (Kd.R_types HO_6.out BK251.out (by decide)) (fun _ hk => hk.2) (.int .i64 ((rd_T62 (rd_L5 l0_1 x22_2) x28_3).f0))) (fun _ hk => hk.2) (.int .i64 ((rd_T62 (rd_L5 l0_1 x22_2) x28_3).f1))) (fun _ h_ => h_.1)))); (case side2 => exact (Kd.R_reads' HO_6.out).2.1); rintro e w' ⟨rfl, ⟨nd, rfl⟩⟩))
        go_ret
        exact ⟨by first | rfl | (simp [errW_none, errW_some] <;> rfl) | (simp [*, errW_none, errW_some] <;> rfl), by repeat (first | (with_reducible first | exact bw HB.out | refine bset ?_ | apply bA | apply bN | apply bD) | exact HB.out)⟩
       replace c21 := Bool.eq_false_iff.mpr c21
       subst c21
       have H1 : (if x6_3.length < 17592186044416 then (impl_IsJobShop.l1 k3 x3_2 (rd_L5 l0_1 x22_2) (x6_3 ++ [(rd_T62 (rd_L5 l0_1 x22_2) x28_3).f0]) l0_1 (l0_1.length : Int) x22_2 (rd_L5 l0_1 x22_2) ((rd_L5 l0_1 x22_2).length : Int) (wrap64 (x28_3 + 1)) a0_0 l0_1) else (none)) = some r := by rw [if_neg (show ¬ (false = true) by decide)] at H; exact H
       clear H
       have H := H1
       clear H1
       by_cases c27 : x6_3.length < 17592186044416
       rotate_left
       ·rw [if_neg c27] at H
        exact absurd H (by simp)
       rw [if_pos c27] at H
       have LMc27 := Aside0.mk c27
       clear c27
       obtain ⟨y255, hy255⟩ : ∃ y_ : List Int, y_ = (x6_3 ++ [(rd_T62 (rd_L5 l0_1 x22_2) x28_3).f0]) := ⟨_, rfl⟩
       replace H : (impl_IsJobShop.l1 k3 x3_2 (rd_L5 l0_1 x22_2) y255 l0_1 (l0_1.length : Int) x22_2 (rd_L5 l0_1 x22_2) ((rd_L5 l0_1 x22_2).length : Int) (wrap64 (x28_3 + 1)) a0_0 l0_1) = some r := by first | (rw [hy255]; with_reducible exact H) | (have H2_ := (Option.bind_some _ _).symm.trans H; rw [hy255]; with_reducible exact H2_) | (have H2_ := (Option.bind_some _ _).symm.trans H; with_reducible exact H2_) | with_reducible exact H | (rw [hy255]; exact H) | exact H
       have Ny255 := Aside0.mk hy255
       clear hy255
       have H' := Aside0.mk H
       clear H
       have p250 : 0 ≤ (x28_3 : Int) := of_decide_eq_true (by first | (with_reducible assumption) | assumption)
       have q250 : x28_3 < ((rd_L5 l0_1 x22_2).length : Int) := of_decide_eq_true (by first | (with_reducible assumption) | assumption)
       obtain ⟨ad250, e250, hx250_0, hx250_1⟩ := at_T62 HR249_0.out x28_3 p250 q250
       cases e250
       replace hx250_0 := (HB.out.cell (World.block_lt_of_cell? w _ hx250_0)).trans hx250_0
       replace hx250_1 := (HB.out.cell (World.block_lt_of_cell? w _ hx250_1)).trans hx250_1
       replace p250 := eq_true p250
       replace q250 := eq_true q250
       go_wp2_with (first | ((with_reducible refine gate_dst (N := 8) rfl ?_); (try (refine gate_guard (by rfl) ?_; dsimp only)); refine box_event ?hg (N := 8) ?hd (cs := #[.int .i64 0, .int .i64 0]) (t := 62) ?hr ?_; (case hd => rfl); (case hg => rfl); (case hr => first | (go_simp; done) | (go_simp; rfl)); intro gb251 hg w28 hbox hb; have n0_ := Aside0.mk (Kd.R_below (bR HO_6.out) hb); have n1_ := Aside0.mk (blk_below (bs BK247.out) hb); have n2_ := Aside0.mk (below_step (by repeat (first | (with_reducible first | exact bw HB.out | refine bset ?_ | apply bA | apply bN | apply bD) | exact HB.out)) hb); have n3_ := Aside0.mk (hbox); have n4_ := Aside0.mk ((by rw [hg]; exact (below_size (by repeat (first | (with_reducible first | exact bw HB.out | refine bset ?_ | apply bA | apply bN | apply bD) | exact HB.out))) : w.heap.size ≤ gb251)); have n5_ := Aside0.mk ((by rw [hg]; exact (below_size (by repeat (first | (with_reducible first | exact bw HB.out | refine bset ?_ | apply bA | apply bN | apply bD) | exact HB.out))) : w.heap.size ≤ gb251)); have n6_ := ne_ hg BK247.out; have n7_ := en_ hg BK247.out; replace HO_6 := n0_; replace BK247 := n1_; replace HB := n2_; have BK251 := n3_; have GW251 := n4_; have GE251 := n5_; have NB247_251 := n6_; have NB251_247 := n7_; clear n0_ n1_ n2_ n3_ n4_ n5_ n6_ n7_; clear hb hbox hg; have hnb29 := NB251_247.out; have hnc29 := NB247_251.out; obtain ⟨hcz30_0, hcz30_1, hfz30_0, hfz30_1⟩ := bz2 BK251.out; obtain ⟨hcz31_0, hcz31_1, hfz31_0, hfz31_1⟩ := bz2 BK247.out) | ((with_reducible refine gate_callee (f := 30) rfl ?_); refine goesL_ (some 36) rfl rfl Try.func30 (by kernel_rfl) rfl #[.int .i64 ((rd_T62 (rd_L5 l0_1 x22_2) x28_3).f0), .int .i64 a0_0] rfl (by (try simp only [mA_]); first | done | rfl | (simp only [List.length_drop, List.length_take]; rfl)) ?_; (with_reducible refine (impl_isNumber.calls ((rd_T62 (rd_L5 l0_1 x22_2) x28_3).f0) a0_0 true _ A16.out).mono ?_); rintro e w' ⟨rfl, ⟨nd, rfl⟩⟩; refine ⟨_, rfl, ?_⟩) | (go_at_call 29; (with_reducible refine (impl_within.calls ((rd_T62 (rd_L5 l0_1 x22_2) x28_3).f1) 1 20 true _ A18.out).mono ?_); rintro e w' ⟨rfl, ⟨nd, rfl⟩⟩; obtain ⟨Ao32, co32, eo32⟩ := Kd.R_slice HO_6.out; subst eo32) | (go_at_call 31; (with_reducible refine (impl_has.calls k3 _ _ x6_3 ((rd_T62 (rd_L5 l0_1 x22_2) x28_3).f0) false _ ?side1 ?side2 A20.out).mono ?_); (case side1 => refine (Kd.R_reads' (e := 3) (base := w.heap.size) (ok := fun k_ => True) (n := x6_3.length) (c := co32) ?_).2.2; exact (by (with_reducible repeat (first | apply Kd.R_alloc | apply Kd.R_drewN | apply Kd.R_drew)); exact (Kd.R_mono (Kd.R_far (p := ⟨gb251, 1, none⟩) (Kd.R_far (p := ⟨gb251, 0, none⟩) (Kd.R_types HO_6.out BK251.out (by decide)) (fun _ hk => hk.2) (.int .i64 ((rd_T62 (rd_L5 l0_1 x22_2) x28_3).f0))) (fun _ hk => hk.2) (.int .i64 ((rd_T62 (rd_L5 l0_1 x22_2) x28_3).f1))) (fun _ h_ => h_.1)))); (case side2 => exact (Kd.R_reads' HO_6.out).2.1); rintro e w' ⟨rfl, ⟨nd, rfl⟩⟩) | ((with_reducible refine gate_builtin (b := .append) (xs := #[.tmp 50, .tmp 53]) rfl ?_); (try (refine gate_guard (by rfl) ?_; dsimp only)); at_builtin; refine Kd.R_append (Kd.int .i64) (w0 := w) w.heap.size rfl (.tmp 50) (.tmp 53) 46 3 (.int .i64 0) 8 rfl Try.underlying46 info3 rfl (by decide) (by omega) (.slice Ao32 x6_3.length co32) x6_3 ((rd_T62 (rd_L5 l0_1 x22_2) x28_3).f0) [.int .i64 ((rd_T62 (rd_L5 l0_1 x22_2) x28_3).f0)] (fun _ => True) (fun _ => False) rfl (by first | (go_simp; done) | (go_simp; rfl)) ?aP (fun _ hk => hk.elim) ?aF ?aO ?aB ?aS ?aL ?_; (case aP => exact rfl); (case aB => exact (by repeat (first | (with_reducible first | exact bw HB.out | refine bset ?_ | apply bA | apply bN | apply bD) | exact HB.out))); (case aF => exact (fun _ _ => trivial)); (case aO => exact (by (with_reducible repeat (first | apply Kd.R_alloc | apply Kd.R_drewN | apply Kd.R_drew)); exact Kd.R_mono (Kd.R_far (p := ⟨gb251, 1, none⟩) (Kd.R_far (p := ⟨gb251, 0, none⟩) (Kd.R_types HO_6.out BK251.out (by decide)) (fun _ hk => hk.2) (.int .i64 ((rd_T62 (rd_L5 l0_1 x22_2) x28_3).f0))) (fun _ hk => hk.2) (.int .i64 ((rd_T62 (rd_L5 l0_1 x22_2) x28_3).f1))) (fun _ hk => trivial))); (case aS => exact (below_size (by repeat (first | (with_reducible first | exact bw HB.out | refine bset ?_ | apply bA | apply bN | apply bD) | exact HB.out)))); (case aL => have := LMc27.out; omega); intro v256 w33 ho hb hg hat; rw [← Ny255.out] at ho; have n0_ := Aside0.mk (blk_grown (g := gb247) (o := .cells #[.int .i64 a0_0, .slice (some ad249) l0_1.length c0_1] 32 (0, 0)) (by (with_reducible repeat (first | refine blk_drewN ?_ _ | refine blk_drew ?_ | refine blk_alloc ?_ _)); refine blk_far ?_ NB247_251.out _; (with_reducible repeat (first | refine blk_drewN ?_ _ | refine blk_drew ?_ | refine blk_alloc ?_ _)); refine blk_far ?_ NB247_251.out _; exact bs BK247.out) hg (Kd.R_ne HO_6.out BK247.out (by decide))); have n1_ := Aside0.mk (blk_grown (g := gb251) (o := .cells #[.int .i64 ((rd_T62 (rd_L5 l0_1 x22_2) x28_3).f0), .int .i64 ((rd_T62 (rd_L5 l0_1 x22_2) x28_3).f1)] 62 (0, 0)) (by (with_reducible repeat (first | refine blk_drewN ?_ _ | refine blk_drew ?_ | refine blk_alloc ?_ _)); refine blk_put (cs := #[.int .i64 ((rd_T62 (rd_L5 l0_1 x22_2) x28_3).f0), .int .i64 0]) ?_ 1 _ rfl; (with_reducible repeat (first | refine blk_drewN ?_ _ | refine blk_drew ?_ | refine blk_alloc ?_ _)); refine blk_put (cs := #[.int .i64 0, .int .i64 0]) ?_ 0 _ rfl; exact bs BK251.out) hg (Kd.R_ne HO_6.out BK251.out (by decide))); have n2_ := Aside0.mk (hb); have n3_ := Aside0.mk (ho); clear HO_6; replace BK247 := n0_; replace BK251 := n1_; replace HB := n2_; have HO257 := n3_; clear n0_ n1_ n2_ n3_; clear ho hb hg hat))
       go_roundg k3
       case measure => have := HJ1.out; have := HK2.out; have := HK3.out; omega
       case rel => exact ⟨(y255), (wrap64 (x28_3 + 1)), (by first | rfl | (simp; done) | (simp [*]; done)), H', ⟨by have := HJ1.out; have := HK2.out; have := HK3.out; omega⟩, ⟨bR HO257.out⟩, ⟨bs BK247.out⟩, ⟨by repeat (first | (with_reducible first | exact bw HB.out | refine bset ?_ | apply bA | apply bN | apply bD) | exact HB.out)⟩⟩

/-! ### impl_flatOf: function 18 -/
mutual
def impl_flatOf.l0 : Nat → List (List (S62)) → Int → Int → List (S62) → List Int → List Int → Option ((List (S62)) × List Int × List Int)
 | 0, _, _, _, _, _, _ => none
 | k + 1, x9, x10, x11, x261000, x261001, x261002 => if x11 < x10 then (if 0 ≤ x11 then (if x11 < (x9.length : Int) then (impl_flatOf.l1 k x11 x9 x10 x11 (rd_L5 x9 x11) ((rd_L5 x9 x11).length : Int) 0 x261000 x261001 x261002) else (none)) else (none)) else (some (x261000, x261001, x261002))
def impl_flatOf.l1 : Nat → Int → List (List (S62)) → Int → Int → List (S62) → Int → Int → List (S62) → List Int → List Int → Option ((List (S62)) × List Int × List Int)
 | 0, _, _, _, _, _, _, _, _, _, _ => none
 | k + 1, x4, x9, x10, x11, x16, x17, x18, x261000, x261001, x261002 => if x18 < x17 then (if 0 ≤ x18 then (if x18 < (x16.length : Int) then (if x261000.length < 8796093022208 then (if x261001.length < 17592186044416 then (if x261002.length < 17592186044416 then (impl_flatOf.l1 k x4 x9 x10 x11 x16 x17 (wrap64 (x18 + 1)) (x261000 ++ [(⟨(rd_T62 x16 x18).f0, (rd_T62 x16 x18).f1⟩ : S62)]) (x261001 ++ [x4]) (x261002 ++ [x18])) else (none)) else (none)) else (none)) else (none)) else (none)) else (impl_flatOf.l0 k x9 x10 (wrap64 (x11 + 1)) x261000 x261001 x261002)
end
def impl_flatOf.f (k : Nat) (a0_0 : Int) (l0_1 : List (List (S62))) : Option ((List (S62)) × List Int × List Int) := impl_flatOf.l0 k l0_1 (l0_1.length : Int) 0 ([] : List (S62)) ([] : List Int) ([] : List Int)
theorem impl_flatOf.mono_l : ∀ k, (∀ y0 y1 y2 y3 y4 y5, LeO (impl_flatOf.l0 k y0 y1 y2 y3 y4 y5) (impl_flatOf.l0 (k + 1) y0 y1 y2 y3 y4 y5)) ∧ (∀ y0 y1 y2 y3 y4 y5 y6 y7 y8 y9, LeO (impl_flatOf.l1 k y0 y1 y2 y3 y4 y5 y6 y7 y8 y9) (impl_flatOf.l1 (k + 1) y0 y1 y2 y3 y4 y5 y6 y7 y8 y9))
 | 0 => ⟨fun _ _ _ _ _ _ r h => by simp [impl_flatOf.l0] at h, fun _ _ _ _ _ _ _ _ _ _ r h => by simp [impl_flatOf.l1] at h⟩
 | k + 1 => by
  obtain ⟨ih0, ih1⟩ := impl_flatOf.mono_l k
  refine ⟨?_, ?_⟩
  ·intro y0 y1 y2 y3 y4 y5
   unfold impl_flatOf.l0
   repeat' first
   | (with_reducible exact ih0 _ _ _ _ _ _)
   | (with_reducible exact ih1 _ _ _ _ _ _ _ _ _ _)
   | (with_reducible exact LeO.refl _)
   | (with_reducible exact LeO.none _)
   | (with_reducible refine LeO.ite ?_ ?_)
   | (with_reducible refine LeO.bind ?_ (fun _ => ?_))
   | exact ih0 _ _ _ _ _ _
   | exact ih1 _ _ _ _ _ _ _ _ _ _
   | exact LeO.none _
   | refine LeO.ite ?_ ?_
   | refine LeO.bind ?_ (fun _ => ?_)
  ·intro y0 y1 y2 y3 y4 y5 y6 y7 y8 y9
   unfold impl_flatOf.l1
   repeat' first
   | (with_reducible exact ih0 _ _ _ _ _ _)
   | (with_reducible exact ih1 _ _ _ _ _ _ _ _ _ _)
   | (with_reducible exact LeO.refl _)
   | (with_reducible exact LeO.none _)
   | (with_reducible refine LeO.ite ?_ ?_)
   | (with_reducible refine LeO.bind ?_ (fun _ => ?_))
   | exact ih0 _ _ _ _ _ _
   | exact ih1 _ _ _ _ _ _ _ _ _ _
   | exact LeO.none _
   | refine LeO.ite ?_ ?_
   | refine LeO.bind ?_ (fun _ => ?_)
theorem impl_flatOf.mono : ∀ a0 a1 k, LeO (impl_flatOf.f k a0 a1) (impl_flatOf.f (k + 1) a0 a1) := by
 intro a0 a1 k
 obtain ⟨ih0, ih1⟩ := impl_flatOf.mono_l k
 unfold impl_flatOf.f
 repeat' first
   | (with_reducible exact ih0 _ _ _ _ _ _)
   | (with_reducible exact ih1 _ _ _ _ _ _ _ _ _ _)
   | (with_reducible exact LeO.refl _)
   | (with_reducible exact LeO.none _)
   | (with_reducible refine LeO.ite ?_ ?_)
   | (with_reducible refine LeO.bind ?_ (fun _ => ?_))
   | exact ih0 _ _ _ _ _ _
   | exact ih1 _ _ _ _ _ _ _ _ _ _
   | exact LeO.none _
   | refine LeO.ite ?_ ?_
   | refine LeO.bind ?_ (fun _ => ?_)
set_option maxHeartbeats 8000000 in
set_option maxRecDepth 100000 in
theorem impl_flatOf.calls (k : Nat) (a0_0 : Int) (A0_1 : Option Addr) (c0_1 : Nat) (l0_1 : List (List (S62))) (r1 : List (S62)) (r2 : List Int) (r3 : List Int) (w : World) (hr0_1 : Kd.C (Kd.slice 62 k62) w A0_1 l0_1.length l0_1) (hc0_1 : l0_1.length ≤ c0_1) (h : impl_flatOf.f k a0_0 l0_1 = some (r1, r2, r3)) :
  Calls Try.prog 18 #[.agg #[.int .i64 a0_0, .slice A0_1 l0_1.length c0_1]] w fun e w' => ∃ v0_ v1_ v2_ : Value, e = .returned (.agg #[v0_, v1_, v2_]) ∧ Kd.R k62 62 w' w.heap.size (fun _ => True) v0_ r1 ∧ Kd.R (Kd.int .i64) 3 w' w.heap.size (fun k_ => some k_ ≠ (v2_ : Value).ownBlock) v1_ r2 ∧ Kd.R (Kd.int .i64) 3 w' w.heap.size (fun k_ => some k_ ≠ (v1_ : Value).ownBlock) v2_ r3 ∧ Below w.heap.size w w' := by
 have hu32 := Try.underlying32
 have hu48 := Try.underlying48
 have hu62 := Try.underlying62
 have HR0_1 := Aside0.mk hr0_1
 have HC0_1 := Aside0.mk hc0_1
 clear hr0_1 hc0_1
 have HB := Aside0.mk (Below.refl w.heap.size w)
 have H : (impl_flatOf.l0 k l0_1 (l0_1.length : Int) 0 ([] : List (S62)) ([] : List Int) ([] : List Int)) = some (r1, r2, r3) := h
 clear h
 have H' := Aside0.mk H
 clear H
 go_enter Try.func18, Try.ntmps18
 go_wp2_with (first | ((with_reducible refine gate_dst (N := 1) rfl ?_); refine box_event ?hg (N := 1) ?hd (cs := #[.int .i64 a0_0, .slice A0_1 l0_1.length c0_1]) (t := 32) ?hr ?_; (case hd => rfl); (case hg => rfl); (case hr => first | (go_simp; done) | (go_simp; rfl)); intro gb258 hg w2 hbox hb; have n0_ := Aside0.mk (below_step (bw HB.out) hb); have n1_ := Aside0.mk (hbox); have n2_ := ge_ hg HB.out; have n3_ := ge_ hg HB.out; replace HB := n0_; have BK258 := n1_; have GW258 := n2_; have GE258 := n3_; clear n0_ n1_ n2_ n3_; clear hb hbox hg) | ((with_reducible refine gate_dst (N := 2) rfl ?_); refine box_event ?hg (N := 2) ?hd (cs := #[.slice none 0 0, .slice none 0 0, .slice none 0 0]) (t := 48) ?hr ?_; (case hd => rfl); (case hg => rfl); (case hr => first | (go_simp; done) | (go_simp; rfl)); intro gb259 hg w3 hbox hb; have n0_ := Aside0.mk (blk_below (bs BK258.out) hb); have n1_ := Aside0.mk (below_step (by repeat (first | (with_reducible first | exact bw HB.out | refine bset ?_ | apply bA | apply bN | apply bD) | exact HB.out)) hb); have n2_ := Aside0.mk (hbox); have n3_ := Aside0.mk ((by rw [hg]; exact (below_size (by repeat (first | (with_reducible first | exact bw HB.out | refine bset ?_ | apply bA | apply bN | apply bD) | exact HB.out))) : w.heap.size ≤ gb259)); have n4_ := Aside0.mk ((by rw [hg]; exact (below_size (by repeat (first | (with_reducible first | exact bw HB.out | refine bset ?_ | apply bA | apply bN | apply bD) | exact HB.out))) : w.heap.size ≤ gb259)); have n5_ := ne_ hg BK258.out; have n6_ := en_ hg BK258.out; replace BK258 := n0_; replace HB := n1_; have BK259 := n2_; have GW259 := n3_; have GE259 := n4_; have NB258_259 := n5_; have NB259_258 := n6_; clear n0_ n1_ n2_ n3_ n4_ n5_ n6_; clear hb hbox hg) | ((with_reducible refine gate_dst (N := 3) rfl ?_); refine box_event ?hg (N := 3) ?hd (cs := #[.slice none 0 0, .slice none 0 0, .slice none 0 0]) (t := 48) ?hr ?_; (case hd => rfl); (case hg => rfl); (case hr => first | (go_simp; done) | (go_simp; rfl)); intro gb260 hg w4 hbox hb; have n0_ := Aside0.mk (blk_below (bs BK258.out) hb); have n1_ := Aside0.mk (blk_below (bs BK259.out) hb); have n2_ := Aside0.mk (below_step (by repeat (first | (with_reducible first | exact bw HB.out | refine bset ?_ | apply bA | apply bN | apply bD) | exact HB.out)) hb); have n3_ := Aside0.mk (hbox); have n4_ := Aside0.mk ((by rw [hg]; exact (below_size (by repeat (first | (with_reducible first | exact bw HB.out | refine bset ?_ | apply bA | apply bN | apply bD) | exact HB.out))) : w.heap.size ≤ gb260)); have n5_ := Aside0.mk ((by rw [hg]; exact (below_size (by repeat (first | (with_reducible first | exact bw HB.out | refine bset ?_ | apply bA | apply bN | apply bD) | exact HB.out))) : w.heap.size ≤ gb260)); have n6_ := ne_ hg BK258.out; have n7_ := en_ hg BK258.out; have n8_ := ne_ hg BK259.out; have n9_ := en_ hg BK259.out; replace BK258 := n0_; replace BK259 := n1_; replace HB := n2_; have BK260 := n3_; have GW260 := n4_; have GE260 := n5_; have NB258_260 := n6_; have NB260_258 := n7_; have NB259_260 := n8_; have NB260_259 := n9_; clear n0_ n1_ n2_ n3_ n4_ n5_ n6_ n7_ n8_ n9_; clear hb hbox hg; have hnb5 := NB258_259.out; have hnc5 := NB259_258.out; have hnb6 := NB258_260.out; have hnc6 := NB260_258.out; obtain ⟨hcz7_0, hcz7_1, hfz7_0, hfz7_1⟩ := bz2 BK258.out))
 go_loopg [11] k (fun kq v11 w' => ∃ (x11_1 : Int) (x261000_1 : List (S62)) (x261001_1 : List Int) (x261002_1 : List Int) (u261000 : Value) (u261001 : Value) (u261002 : Value), v11 = .int .i64 x11_1 ∧ Aside0 (impl_flatOf.l0 kq l0_1 (l0_1.length : Int) x11_1 x261000_1 x261001_1 x261002_1 = some (r1, r2, r3)) ∧ Aside0 (kq ≤ k) ∧ Aside0 (Kd.R k62 62 w' w.heap.size (fun _ => True) u261000 x261000_1) ∧ Aside0 (Kd.R (Kd.int .i64) 3 w' w.heap.size (fun k_ => some k_ ≠ (u261002 : Value).ownBlock) u261001 x261001_1) ∧ Aside0 (Kd.R (Kd.int .i64) 3 w' w.heap.size (fun k_ => some k_ ≠ (u261001 : Value).ownBlock) u261002 x261002_1) ∧ Aside0 (w'.heap[gb258]? = some (.cells #[.int .i64 a0_0, (.slice A0_1 l0_1.length c0_1)] 32 (0, 0))) ∧ Aside0 (w'.heap[gb259]? = some (.cells #[(.slice none 0 0), (.slice none 0 0), (.slice none 0 0)] 48 (0, 0))) ∧ Aside0 (w'.heap[gb260]? = some (.cells #[u261000, u261001, u261002] 48 (0, 0))) ∧ Aside0 (Below w.heap.size w w'))
 case atStart => exact ⟨(0), (([] : List (S62))), (([] : List Int)), (([] : List Int)), (.slice none 0 0), (.slice none 0 0), (.slice none 0 0), (by first | rfl | (simp; done) | (simp [*]; done)), H', ⟨Nat.le_refl _⟩, ⟨by first | exact Kd.R_nil _ _ _ _ _ | exact Kd.N_nil _ _ _ _ _ | exact Kd.V_nil _ _ _ _ _ | exact Kd.Q_nil _ _ _ _ _ | exact Kd.S_nil _ _ _ _ _⟩, ⟨by first | exact Kd.R_nil _ _ _ _ _ | exact Kd.N_nil _ _ _ _ _ | exact Kd.V_nil _ _ _ _ _ | exact Kd.Q_nil _ _ _ _ _ | exact Kd.S_nil _ _ _ _ _⟩, ⟨by first | exact Kd.R_nil _ _ _ _ _ | exact Kd.N_nil _ _ _ _ _ | exact Kd.V_nil _ _ _ _ _ | exact Kd.Q_nil _ _ _ _ _ | exact Kd.S_nil _ _ _ _ _⟩, ⟨bs BK258.out⟩, ⟨bs BK259.out⟩, ⟨bs BK260.out⟩, ⟨by repeat (first | (with_reducible first | exact bw HB.out | refine bset ?_ | apply bA | apply bN | apply bD) | exact HB.out)⟩⟩
 case round =>
  clear H'
  try clear c1
  try clear p2
  try clear c5
  try clear c6
  try clear hcz7_0
  try clear hcz7_1
  try clear hfz7_0
  try clear hfz7_1
  obtain ⟨x11_1, x261000_1, x261001_1, x261002_1, u261000, u261001, u261002, rfl, HA, HK1, HO_261000, HO_261001, HO_261002, BK258, BK259, BK260, HB⟩ := hrel
  cases gk with
  | zero => exact absurd HA.out (by simp [impl_flatOf.l0])
  | succ k1 =>
   have H := HA.out
   clear HA
   simp only [impl_flatOf.l0] at H
   by_cases c8 : x11_1 < (l0_1.length : Int)
   rotate_left
   ·rw [if_neg c8] at H
    have c8b0 : decide (x11_1 < (l0_1.length : Int)) = false := decide_eq_false c8
    clear c8
    simp only [Option.some.injEq, Prod.mk.injEq] at H
    obtain ⟨rfl, rfl, rfl⟩ := H
    have hnb34 := NB260_258.out
    have hnc34 := NB258_260.out
    have hnb35 := NB260_259.out
    have hnc35 := NB259_260.out
    obtain ⟨hcz36_0, hcz36_1, hcz36_2, hfz36_0, hfz36_1, hfz36_2⟩ := bz3 BK260.out
    obtain ⟨Ao37, co37, eo37⟩ := Kd.R_slice HO_261000.out
    subst eo37
    have hnb38 := NB259_258.out
    have hnc38 := NB258_259.out
    obtain ⟨hcz39_0, hcz39_1, hcz39_2, hfz39_0, hfz39_1, hfz39_2⟩ := bz3 BK259.out
    obtain ⟨Ao40, co40, eo40⟩ := Kd.R_slice HO_261001.out
    subst eo40
    obtain ⟨Ao41, co41, eo41⟩ := Kd.R_slice HO_261002.out
    subst eo41
    go_wp2
    refine bodyPost_ret (results_cell_row rfl _ _ gb259 48 #[.slice Ao37 x261000_1.length co37, .slice Ao40 x261001_1.length co40, .slice Ao41 x261002_1.length co41] (0, 0) _ rfl (by (with_reducible repeat (first | refine blk_drewN ?_ _ | refine blk_drew ?_ | refine blk_alloc ?_ _)); refine blk_put (cs := #[.slice Ao37 x261000_1.length co37, .slice Ao40 x261001_1.length co40, .slice none 0 0]) ?_ 2 _ rfl; (with_reducible repeat (first | refine blk_drewN ?_ _ | refine blk_drew ?_ | refine blk_alloc ?_ _)); refine blk_put (cs := #[.slice Ao37 x261000_1.length co37, .slice none 0 0, .slice none 0 0]) ?_ 1 _ rfl; (with_reducible repeat (first | refine blk_drewN ?_ _ | refine blk_drew ?_ | refine blk_alloc ?_ _)); refine blk_put (cs := #[.slice none 0 0, .slice none 0 0, .slice none 0 0]) ?_ 0 _ rfl; exact bs BK259.out) Try.underlying48 rfl (by kernel_rfl)) rfl ?_
    exact ⟨_, _, _, by first | rfl | (simp [errW_none, errW_some] <;> rfl) | (simp [*, errW_none, errW_some] <;> rfl), by (with_reducible repeat (first | apply Kd.R_alloc | apply Kd.R_drewN | apply Kd.R_drew)); exact Kd.R_mono (Kd.R_far (p := ⟨gb259, 2, none⟩) (Kd.R_far (p := ⟨gb259, 1, none⟩) (Kd.R_far (p := ⟨gb259, 0, none⟩) (Kd.R_types HO_261000.out BK259.out (by decide)) (fun _ hk => hk.2) (.slice Ao37 x261000_1.length co37)) (fun _ hk => hk.2) (.slice Ao40 x261001_1.length co40)) (fun _ hk => hk.2) (.slice Ao41 x261002_1.length co41)) (fun _ hk => trivial), by (with_reducible repeat (first | apply Kd.R_alloc | apply Kd.R_drewN | apply Kd.R_drew)); exact Kd.R_mono (Kd.R_far (p := ⟨gb259, 2, none⟩) (Kd.R_far (p := ⟨gb259, 1, none⟩) (Kd.R_far (p := ⟨gb259, 0, none⟩) (Kd.R_types HO_261001.out BK259.out (by decide)) (fun _ hk => hk.2) (.slice Ao37 x261000_1.length co37)) (fun _ hk => hk.2) (.slice Ao40 x261001_1.length co40)) (fun _ hk => hk.2) (.slice Ao41 x261002_1.length co41)) (fun _ hk => hk.1), by (with_reducible repeat (first | apply Kd.R_alloc | apply Kd.R_drewN | apply Kd.R_drew)); exact Kd.R_mono (Kd.R_far (p := ⟨gb259, 2, none⟩) (Kd.R_far (p := ⟨gb259, 1, none⟩) (Kd.R_far (p := ⟨gb259, 0, none⟩) (Kd.R_types HO_261002.out BK259.out (by decide)) (fun _ hk => hk.2) (.slice Ao37 x261000_1.length co37)) (fun _ hk => hk.2) (.slice Ao40 x261001_1.length co40)) (fun _ hk => hk.2) (.slice Ao41 x261002_1.length co41)) (fun _ hk => hk.1), by repeat (first | (with_reducible first | exact bw HB.out | refine bset ?_ | apply bA | apply bN | apply bD) | exact HB.out)⟩
   rw [if_pos c8] at H
   have c8b0 : decide (x11_1 < (l0_1.length : Int)) = true := decide_eq_true c8
   clear c8
   by_cases c9 : 0 ≤ x11_1
   rotate_left
   ·rw [if_neg c9] at H
    exact absurd H (by simp)
   rw [if_pos c9] at H
   have c9b0 : decide (0 ≤ x11_1) = true := decide_eq_true c9
   clear c9
   by_cases c10 : x11_1 < (l0_1.length : Int)
   rotate_left
   ·rw [if_neg c10] at H
    exact absurd H (by simp)
   rw [if_pos c10] at H
   have c10b0 : decide (x11_1 < (l0_1.length : Int)) = true := decide_eq_true c10
   clear c10
   have H' := Aside0.mk H
   clear H
   have p261 : 0 ≤ (x11_1 : Int) := of_decide_eq_true (by first | (with_reducible assumption) | assumption)
   have q261 : x11_1 < (l0_1.length : Int) := of_decide_eq_true (by first | (with_reducible assumption) | assumption)
   obtain ⟨ad261, A261_0, c261_0, e261, hx261_0, hl261_0, hi261_0⟩ := at_L5 HR0_1.out x11_1 p261 q261
   cases e261
   replace hx261_0 := (HB.out.cell (World.block_lt_of_cell? w _ hx261_0)).trans hx261_0
   have HR261_0 := Aside0.mk hi261_0
   have HC261_0 := Aside0.mk hl261_0
   clear hi261_0 hl261_0
   replace p261 := eq_true p261
   replace q261 := eq_true q261
   go_wp2
   go_loopg [18] k1 (fun kq v18 w' => ∃ (x18_2 : Int) (x261000_2 : List (S62)) (x261001_2 : List Int) (x261002_2 : List Int) (u261000 : Value) (u261001 : Value) (u261002 : Value), v18 = .int .i64 x18_2 ∧ Aside0 (impl_flatOf.l1 kq x11_1 l0_1 (l0_1.length : Int) x11_1 (rd_L5 l0_1 x11_1) ((rd_L5 l0_1 x11_1).length : Int) x18_2 x261000_2 x261001_2 x261002_2 = some (r1, r2, r3)) ∧ Aside0 (kq ≤ k1) ∧ Aside0 (Kd.R k62 62 w' w.heap.size (fun _ => True) u261000 x261000_2) ∧ Aside0 (Kd.R (Kd.int .i64) 3 w' w.heap.size (fun k_ => some k_ ≠ (u261002 : Value).ownBlock) u261001 x261001_2) ∧ Aside0 (Kd.R (Kd.int .i64) 3 w' w.heap.size (fun k_ => some k_ ≠ (u261001 : Value).ownBlock) u261002 x261002_2) ∧ Aside0 (w'.heap[gb258]? = some (.cells #[.int .i64 a0_0, (.slice (some ad261) l0_1.length c0_1)] 32 (0, 0))) ∧ Aside0 (w'.heap[gb259]? = some (.cells #[(.slice none 0 0), (.slice none 0 0), (.slice none 0 0)] 48 (0, 0))) ∧ Aside0 (w'.heap[gb260]? = some (.cells #[u261000, u261001, u261002] 48 (0, 0))) ∧ Aside0 (Below w.heap.size w w'))
   case atStart => exact ⟨(0), (x261000_1), (x261001_1), (x261002_1), (u261000), (u261001), (u261002), (by first | rfl | (simp; done) | (simp [*]; done)), H', ⟨Nat.le_refl _⟩, ⟨bR HO_261000.out⟩, ⟨bR HO_261001.out⟩, ⟨bR HO_261002.out⟩, ⟨bs BK258.out⟩, ⟨bs BK259.out⟩, ⟨bs BK260.out⟩, ⟨by repeat (first | (with_reducible first | exact bw HB.out | refine bset ?_ | apply bA | apply bN | apply bD) | exact HB.out)⟩⟩
   case round =>
    clear H'
    try clear c1
    try clear c2
    try clear p2
    try clear q2
    try clear hx2
    try clear c5
    try clear c6
    try clear c8
    try clear c8b0
    try clear c9
    try clear c9b0
    try clear c10
    try clear c10b0
    try clear hcz7_0
    try clear hcz7_1
    try clear hfz7_0
    try clear hfz7_1
    try clear hx261_0
    try clear p2
    try clear p261
    try clear q261
    obtain ⟨x18_2, x261000_2, x261001_2, x261002_2, u261000, u261001, u261002, rfl, HA, HK2, HO_261000, HO_261001, HO_261002, BK258, BK259, BK260, HB⟩ := hrel
    cases gk with
    | zero => exact absurd HA.out (by simp [impl_flatOf.l1])
    | succ k2 =>
     have H := HA.out
     clear HA
     simp only [impl_flatOf.l1] at H
     by_cases c11 : x18_2 < ((rd_L5 l0_1 x11_1).length : Int)
     rotate_left
     ·rw [if_neg c11] at H
      have c11b0 : decide (x18_2 < ((rd_L5 l0_1 x11_1).length : Int)) = false := decide_eq_false c11
      clear c11
      have H' := Aside0.mk H
      clear H
      go_wp2
      go_roundg k2
      case measure => have := HK1.out; have := HK2.out; omega
      case rel => exact ⟨(wrap64 (x11_1 + 1)), (x261000_2), (x261001_2), (x261002_2), (u261000), (u261001), (u261002), (by first | rfl | (simp; done) | (simp [*]; done)), H', ⟨by have := HK1.out; have := HK2.out; omega⟩, ⟨bR HO_261000.out⟩, ⟨bR HO_261001.out⟩, ⟨bR HO_261002.out⟩, ⟨bs BK258.out⟩, ⟨bs BK259.out⟩, ⟨bs BK260.out⟩, ⟨by repeat (first | (with_reducible first | exact bw HB.out | refine bset ?_ | apply bA | apply bN | apply bD) | exact HB.out)⟩⟩
     rw [if_pos c11] at H
     have c11b0 : decide (x18_2 < ((rd_L5 l0_1 x11_1).length : Int)) = true := decide_eq_true c11
     clear c11
     by_cases c12 : 0 ≤ x18_2
     rotate_left
     ·rw [if_neg c12] at H
      exact absurd H (by simp)
     rw [if_pos c12] at H
     have c12b0 : decide (0 ≤ x18_2) = true := decide_eq_true c12
     clear c12
     by_cases c13 : x18_2 < ((rd_L5 l0_1 x11_1).length : Int)
     rotate_left
     ·rw [if_neg c13] at H
      exact absurd H (by simp)
     rw [if_pos c13] at H
     have c13b0 : decide (x18_2 < ((rd_L5 l0_1 x11_1).length : Int)) = true := decide_eq_true c13
     clear c13
     by_cases c14 : x261000_2.length < 8796093022208
     rotate_left
     ·rw [if_neg c14] at H
      exact absurd H (by simp)
     rw [if_pos c14] at H
     have LMc14 := Aside0.mk c14
     clear c14
     obtain ⟨y264, hy264⟩ : ∃ y_ : List (S62), y_ = (x261000_2 ++ [(⟨(rd_T62 (rd_L5 l0_1 x11_1) x18_2).f0, (rd_T62 (rd_L5 l0_1 x11_1) x18_2).f1⟩ : S62)]) := ⟨_, rfl⟩
     replace H : (if x261001_2.length < 17592186044416 then (if x261002_2.length < 17592186044416 then (impl_flatOf.l1 k2 x11_1 l0_1 (l0_1.length : Int) x11_1 (rd_L5 l0_1 x11_1) ((rd_L5 l0_1 x11_1).length : Int) (wrap64 (x18_2 + 1)) y264 (x261001_2 ++ [x11_1]) (x261002_2 ++ [x18_2])) else (none)) else (none)) = some (r1, r2, r3) := by first | (rw [hy264]; with_reducible exact H) | (have H2_ := (Option.bind_some _ _).symm.trans H; rw [hy264]; with_reducible exact H2_) | (have H2_ := (Option.bind_some _ _).symm.trans H; with_reducible exact H2_) | with_reducible exact H | (rw [hy264]; exact H) | exact H
     have Ny264 := Aside0.mk hy264
     clear hy264
     by_cases c15 : x261001_2.length < 17592186044416
     rotate_left
     ·rw [if_neg c15] at H
      exact absurd H (by simp)
     rw [if_pos c15] at H
     have LMc15 := Aside0.mk c15
     clear c15
     obtain ⟨y267, hy267⟩ : ∃ y_ : List Int, y_ = (x261001_2 ++ [x11_1]) := ⟨_, rfl⟩
     replace H : (if x261002_2.length < 17592186044416 then (impl_flatOf.l1 k2 x11_1 l0_1 (l0_1.length : Int) x11_1 (rd_L5 l0_1 x11_1) ((rd_L5 l0_1 x11_1).length : Int) (wrap64 (x18_2 + 1)) y264 y267 (x261002_2 ++ [x18_2])) else (none)) = some (r1, r2, r3) := by first | (rw [hy267]; with_reducible exact H) | (have H2_ := (Option.bind_some _ _).symm.trans H; rw [hy267]; with_reducible exact H2_) | (have H2_ := (Option.bind_some _ _).symm.trans H; with_reducible exact H2_) | with_reducible exact H | (rw [hy267]; exact H) | exact H
     have Ny267 := Aside0.mk hy267
     clear hy267
     by_cases c16 : x261002_2.length < 17592186044416
     rotate_left
     ·rw [if_neg c16] at H
      exact absurd H (by simp)
     rw [if_pos c16] at H
     have LMc16 := Aside0.mk c16
     clear c16
     obtain ⟨y270, hy270⟩ : ∃ y_ : List Int, y_ = (x261002_2 ++ [x18_2]) := ⟨_, rfl⟩
     replace H : (impl_flatOf.l1 k2 x11_1 l0_1 (l0_1.length : Int) x11_1 (rd_L5 l0_1 x11_1) ((rd_L5 l0_1 x11_1).length : Int) (wrap64 (x18_2 + 1)) y264 y267 y270) = some (r1, r2, r3) := by first | (rw [hy270]; with_reducible exact H) | (have H2_ := (Option.bind_some _ _).symm.trans H; rw [hy270]; with_reducible exact H2_) | (have H2_ := (Option.bind_some _ _).symm.trans H; with_reducible exact H2_) | with_reducible exact H | (rw [hy270]; exact H) | exact H
     have Ny270 := Aside0.mk hy270
     clear hy270
     have H' := Aside0.mk H
     clear H
     have p262 : 0 ≤ (x18_2 : Int) := of_decide_eq_true (by first | (with_reducible assumption) | assumption)
     have q262 : x18_2 < ((rd_L5 l0_1 x11_1).length : Int) := of_decide_eq_true (by first | (with_reducible assumption) | assumption)
     obtain ⟨ad262, e262, hx262_0, hx262_1⟩ := at_T62 HR261_0.out x18_2 p262 q262
     cases e262
     replace hx262_0 := (HB.out.cell (World.block_lt_of_cell? w _ hx262_0)).trans hx262_0
     replace hx262_1 := (HB.out.cell (World.block_lt_of_cell? w _ hx262_1)).trans hx262_1
     replace p262 := eq_true p262
     replace q262 := eq_true q262
     go_wp2_with (first | ((with_reducible refine gate_dst (N := 7) rfl ?_); refine box_event ?hg (N := 7) ?hd (cs := #[.int .i64 0, .int .i64 0]) (t := 62) ?hr ?_; (case hd => rfl); (case hg => rfl); (case hr => first | (go_simp; done) | (go_simp; rfl)); intro gb263 hg w17 hbox hb; have n0_ := Aside0.mk (Kd.R_below (Kd.R_elderB (bR HO_261000.out) gb263 (Nat.le_of_eq hg.symm)) hb); have n1_ := Aside0.mk (Kd.R_below (bR HO_261001.out) hb); have n2_ := Aside0.mk (Kd.R_below (bR HO_261002.out) hb); have n3_ := Aside0.mk (blk_below (bs BK258.out) hb); have n4_ := Aside0.mk (blk_below (bs BK259.out) hb); have n5_ := Aside0.mk (blk_below (bs BK260.out) hb); have n6_ := Aside0.mk (below_step (by repeat (first | (with_reducible first | exact bw HB.out | refine bset ?_ | apply bA | apply bN | apply bD) | exact HB.out)) hb); have n7_ := Aside0.mk (hbox); have n8_ := Aside0.mk ((by rw [hg]; exact (below_size (by repeat (first | (with_reducible first | exact bw HB.out | refine bset ?_ | apply bA | apply bN | apply bD) | exact HB.out))) : w.heap.size ≤ gb263)); have n9_ := Aside0.mk ((by rw [hg]; exact (below_size (by repeat (first | (with_reducible first | exact bw HB.out | refine bset ?_ | apply bA | apply bN | apply bD) | exact HB.out))) : w.heap.size ≤ gb263)); have n10_ := ne_ hg BK258.out; have n11_ := en_ hg BK258.out; have n12_ := ne_ hg BK259.out; have n13_ := en_ hg BK259.out; have n14_ := ne_ hg BK260.out; have n15_ := en_ hg BK260.out; replace HO_261000 := n0_; replace HO_261001 := n1_; replace HO_261002 := n2_; replace BK258 := n3_; replace BK259 := n4_; replace BK260 := n5_; replace HB := n6_; have BK263 := n7_; have GW263 := n8_; have GE263 := n9_; have NB258_263 := n10_; have NB263_258 := n11_; have NB259_263 := n12_; have NB263_259 := n13_; have NB260_263 := n14_; have NB263_260 := n15_; clear n0_ n1_ n2_ n3_ n4_ n5_ n6_ n7_ n8_ n9_ n10_ n11_ n12_ n13_ n14_ n15_; clear hb hbox hg; have hnb18 := NB263_258.out; have hnc18 := NB258_263.out; have hnb19 := NB263_259.out; have hnc19 := NB259_263.out; have hnb20 := NB263_260.out; have hnc20 := NB260_263.out; obtain ⟨hcz21_0, hcz21_1, hfz21_0, hfz21_1⟩ := bz2 BK263.out; have hnb22 := NB260_258.out; have hnc22 := NB258_260.out; have hnb23 := NB260_259.out; have hnc23 := NB259_260.out; obtain ⟨hcz24_0, hcz24_1, hcz24_2, hfz24_0, hfz24_1, hfz24_2⟩ := bz3 BK260.out) | ((with_reducible refine gate_builtin (b := .append) (xs := #[.tmp 24, .tmp 26]) rfl ?_); at_builtin; refine Kd.R_append k62 (w0 := w) w.heap.size rfl (.tmp 24) (.tmp 26) 45 62 (.agg #[(.int .i64 0), (.int .i64 0)]) 16 rfl Try.underlying45 info62 rfl (by decide) (by omega) u261000 x261000_2 (⟨(rd_T62 (rd_L5 l0_1 x11_1) x18_2).f0, (rd_T62 (rd_L5 l0_1 x11_1) x18_2).f1⟩ : S62) [.int .i64 ((rd_T62 (rd_L5 l0_1 x11_1) x18_2).f0), .int .i64 ((rd_T62 (rd_L5 l0_1 x11_1) x18_2).f1)] (fun k_ => k_ ≠ gb263) (fun _ => False) rfl (by first | (go_simp; done) | (go_simp; rfl)) ?aP (fun _ hk => hk.elim) ?aF ?aO ?aB ?aS ?aL ?_; (case aP => exact k62_mkM _ _ _ (⟨(rd_T62 (rd_L5 l0_1 x11_1) x18_2).f0, (rd_T62 (rd_L5 l0_1 x11_1) x18_2).f1⟩ : S62)); (case aB => exact (by repeat (first | (with_reducible first | exact bw HB.out | refine bset ?_ | apply bA | apply bN | apply bD) | exact HB.out))); (case aF => exact (fun k_ hk => Kd.freshB (g := gb263) (o := .cells #[.int .i64 ((rd_T62 (rd_L5 l0_1 x11_1) x18_2).f0), .int .i64 ((rd_T62 (rd_L5 l0_1 x11_1) x18_2).f1)] 62 (0, 0)) (by (with_reducible repeat (first | refine blk_drewN ?_ _ | refine blk_drew ?_ | refine blk_alloc ?_ _)); refine blk_put (cs := #[.int .i64 ((rd_T62 (rd_L5 l0_1 x11_1) x18_2).f0), .int .i64 0]) ?_ 1 _ rfl; (with_reducible repeat (first | refine blk_drewN ?_ _ | refine blk_drew ?_ | refine blk_alloc ?_ _)); refine blk_put (cs := #[.int .i64 0, .int .i64 0]) ?_ 0 _ rfl; exact bs BK263.out) k_ hk)); (case aO => exact (by (with_reducible repeat (first | apply Kd.R_alloc | apply Kd.R_drewN | apply Kd.R_drew)); exact Kd.R_mono (Kd.R_far (p := ⟨gb263, 1, none⟩) (Kd.R_far (p := ⟨gb263, 0, none⟩) (Kd.R_mono HO_261000.out (fun k_ hk => (⟨hk, hk.2⟩ : _ ∧ k_ ≠ gb263))) (fun _ hk => hk.2) (.int .i64 ((rd_T62 (rd_L5 l0_1 x11_1) x18_2).f0))) (fun _ hk => hk.2) (.int .i64 ((rd_T62 (rd_L5 l0_1 x11_1) x18_2).f1))) (fun _ hk => hk.1.2))); (case aS => exact (below_size (by repeat (first | (with_reducible first | exact bw HB.out | refine bset ?_ | apply bA | apply bN | apply bD) | exact HB.out)))); (case aL => have := LMc14.out; omega); intro v265 w25 ho hb hg hat; rw [← Ny264.out] at ho; have n0_ := Aside0.mk (Kd.R_over' (by (with_reducible repeat (first | apply Kd.R_alloc | apply Kd.R_drewN | apply Kd.R_drew)); exact (Kd.R_mono (Kd.R_far (p := ⟨gb263, 1, none⟩) (Kd.R_far (p := ⟨gb263, 0, none⟩) (Kd.R_types HO_261001.out BK263.out (by decide)) (fun _ hk => hk.2) (.int .i64 ((rd_T62 (rd_L5 l0_1 x11_1) x18_2).f0))) (fun _ hk => hk.2) (.int .i64 ((rd_T62 (rd_L5 l0_1 x11_1) x18_2).f1))) (fun _ h_ => h_.1))) (Kd.R_typed (by (with_reducible repeat (first | apply Kd.R_alloc | apply Kd.R_drewN | apply Kd.R_drew)); exact (Kd.R_mono (Kd.R_far (p := ⟨gb263, 1, none⟩) (Kd.R_far (p := ⟨gb263, 0, none⟩) (Kd.R_mono HO_261000.out (fun k_ hk => (⟨hk, hk.2⟩ : _ ∧ k_ ≠ gb263))) (fun _ hk => hk.2) (.int .i64 ((rd_T62 (rd_L5 l0_1 x11_1) x18_2).f0))) (fun _ hk => hk.2) (.int .i64 ((rd_T62 (rd_L5 l0_1 x11_1) x18_2).f1))) (fun _ h_ => h_.1)))) (by decide) hg); have n1_ := Aside0.mk (Kd.R_over' (by (with_reducible repeat (first | apply Kd.R_alloc | apply Kd.R_drewN | apply Kd.R_drew)); exact (Kd.R_mono (Kd.R_far (p := ⟨gb263, 1, none⟩) (Kd.R_far (p := ⟨gb263, 0, none⟩) (Kd.R_types HO_261002.out BK263.out (by decide)) (fun _ hk => hk.2) (.int .i64 ((rd_T62 (rd_L5 l0_1 x11_1) x18_2).f0))) (fun _ hk => hk.2) (.int .i64 ((rd_T62 (rd_L5 l0_1 x11_1) x18_2).f1))) (fun _ h_ => h_.1))) (Kd.R_typed (by (with_reducible repeat (first | apply Kd.R_alloc | apply Kd.R_drewN | apply Kd.R_drew)); exact (Kd.R_mono (Kd.R_far (p := ⟨gb263, 1, none⟩) (Kd.R_far (p := ⟨gb263, 0, none⟩) (Kd.R_mono HO_261000.out (fun k_ hk => (⟨hk, hk.2⟩ : _ ∧ k_ ≠ gb263))) (fun _ hk => hk.2) (.int .i64 ((rd_T62 (rd_L5 l0_1 x11_1) x18_2).f0))) (fun _ hk => hk.2) (.int .i64 ((rd_T62 (rd_L5 l0_1 x11_1) x18_2).f1))) (fun _ h_ => h_.1)))) (by decide) hg); have n2_ := Aside0.mk (blk_grown (g := gb258) (o := .cells #[.int .i64 a0_0, .slice (some ad261) l0_1.length c0_1] 32 (0, 0)) (by (with_reducible repeat (first | refine blk_drewN ?_ _ | refine blk_drew ?_ | refine blk_alloc ?_ _)); refine blk_far ?_ NB258_263.out _; (with_reducible repeat (first | refine blk_drewN ?_ _ | refine blk_drew ?_ | refine blk_alloc ?_ _)); refine blk_far ?_ NB258_263.out _; exact bs BK258.out) hg (Kd.R_ne HO_261000.out BK258.out (by decide))); have n3_ := Aside0.mk (blk_grown (g := gb259) (o := .cells #[.slice none 0 0, .slice none 0 0, .slice none 0 0] 48 (0, 0)) (by (with_reducible repeat (first | refine blk_drewN ?_ _ | refine blk_drew ?_ | refine blk_alloc ?_ _)); refine blk_far ?_ NB259_263.out _; (with_reducible repeat (first | refine blk_drewN ?_ _ | refine blk_drew ?_ | refine blk_alloc ?_ _)); refine blk_far ?_ NB259_263.out _; exact bs BK259.out) hg (Kd.R_ne HO_261000.out BK259.out (by decide))); have n4_ := Aside0.mk (blk_grown (g := gb260) (o := .cells #[u261000, u261001, u261002] 48 (0, 0)) (by (with_reducible repeat (first | refine blk_drewN ?_ _ | refine blk_drew ?_ | refine blk_alloc ?_ _)); refine blk_far ?_ NB260_263.out _; (with_reducible repeat (first | refine blk_drewN ?_ _ | refine blk_drew ?_ | refine blk_alloc ?_ _)); refine blk_far ?_ NB260_263.out _; exact bs BK260.out) hg (Kd.R_ne HO_261000.out BK260.out (by decide))); have n5_ := Aside0.mk (blk_grown (g := gb263) (o := .cells #[.int .i64 ((rd_T62 (rd_L5 l0_1 x11_1) x18_2).f0), .int .i64 ((rd_T62 (rd_L5 l0_1 x11_1) x18_2).f1)] 62 (0, 0)) (by (with_reducible repeat (first | refine blk_drewN ?_ _ | refine blk_drew ?_ | refine blk_alloc ?_ _)); refine blk_put (cs := #[.int .i64 ((rd_T62 (rd_L5 l0_1 x11_1) x18_2).f0), .int .i64 0]) ?_ 1 _ rfl; (with_reducible repeat (first | refine blk_drewN ?_ _ | refine blk_drew ?_ | refine blk_alloc ?_ _)); refine blk_put (cs := #[.int .i64 0, .int .i64 0]) ?_ 0 _ rfl; exact bs BK263.out) hg (Kd.R_away HO_261000.out (fun _ hk => hk.2))); have n6_ := Aside0.mk (hb); have n7_ := Aside0.mk (ho); clear HO_261000; replace HO_261001 := n0_; replace HO_261002 := n1_; replace BK258 := n2_; replace BK259 := n3_; replace BK260 := n4_; replace BK263 := n5_; replace HB := n6_; have HO266 := n7_; clear n0_ n1_ n2_ n3_ n4_ n5_ n6_ n7_; clear ho hb hg hat; obtain ⟨Ao26, co26, eo26⟩ := Kd.R_slice HO266.out; subst eo26; obtain ⟨hcz27_0, hcz27_1, hcz27_2, hfz27_0, hfz27_1, hfz27_2⟩ := bz3 BK260.out) | ((with_reducible refine gate_builtin (b := .append) (xs := #[.tmp 30, .tmp 32]) rfl ?_); at_builtin; refine Kd.R_append (Kd.int .i64) (w0 := w) w.heap.size rfl (.tmp 30) (.tmp 32) 46 3 (.int .i64 0) 8 rfl Try.underlying46 info3 rfl (by decide) (by omega) u261001 x261001_2 x11_1 [.int .i64 x11_1] (fun k_ => some k_ ≠ (u261002 : Value).ownBlock) (fun _ => False) rfl (by first | (go_simp; done) | (go_simp; rfl)) ?aP (fun _ hk => hk.elim) ?aF ?aO ?aB ?aS ?aL ?_; (case aP => exact rfl); (case aB => exact (by repeat (first | (with_reducible first | exact bw HB.out | refine bset ?_ | apply bA | apply bN | apply bD) | exact HB.out))); (case aF => exact (fun k_ hk => Kd.fresh' (Kd.R_lt (by (with_reducible repeat (first | apply Kd.R_alloc | apply Kd.R_drewN | apply Kd.R_drew)); exact (Kd.R_mono (Kd.R_far (p := ⟨gb260, 0, none⟩) (Kd.R_types HO_261002.out BK260.out (by decide)) (fun _ hk => hk.2) (.slice Ao26 y264.length co26)) (fun _ h_ => h_.1)))) k_ hk)); (case aO => exact (by (with_reducible repeat (first | apply Kd.R_alloc | apply Kd.R_drewN | apply Kd.R_drew)); exact Kd.R_mono (Kd.R_far (p := ⟨gb260, 0, none⟩) (Kd.R_types HO_261001.out BK260.out (by decide)) (fun _ hk => hk.2) (.slice Ao26 y264.length co26)) (fun _ hk => hk.1))); (case aS => exact (below_size (by repeat (first | (with_reducible first | exact bw HB.out | refine bset ?_ | apply bA | apply bN | apply bD) | exact HB.out)))); (case aL => have := LMc15.out; omega); intro v268 w28 ho hb hg hat; rw [← Ny267.out] at ho; have n0_ := Aside0.mk (Kd.R_after (ok := (fun _ => True)) (by (with_reducible repeat (first | apply Kd.R_alloc | apply Kd.R_drewN | apply Kd.R_drew)); exact Kd.R_mono (Kd.R_far (p := ⟨gb260, 0, none⟩) (Kd.R_types HO_261002.out BK260.out (by decide)) (fun _ hk => hk.2) (.slice Ao26 y264.length co26)) (fun _ hk => ⟨trivial, hk.1⟩)) hg hat); have n1_ := Aside0.mk (blk_grown (g := gb258) (o := .cells #[.int .i64 a0_0, .slice (some ad261) l0_1.length c0_1] 32 (0, 0)) (by (with_reducible repeat (first | refine blk_drewN ?_ _ | refine blk_drew ?_ | refine blk_alloc ?_ _)); refine blk_far ?_ NB258_260.out _; exact bs BK258.out) hg (Kd.R_ne HO_261001.out BK258.out (by decide))); have n2_ := Aside0.mk (blk_grown (g := gb259) (o := .cells #[.slice none 0 0, .slice none 0 0, .slice none 0 0] 48 (0, 0)) (by (with_reducible repeat (first | refine blk_drewN ?_ _ | refine blk_drew ?_ | refine blk_alloc ?_ _)); refine blk_far ?_ NB259_260.out _; exact bs BK259.out) hg (Kd.R_ne HO_261001.out BK259.out (by decide))); have n3_ := Aside0.mk (blk_grown (g := gb260) (o := .cells #[.slice Ao26 y264.length co26, u261001, u261002] 48 (0, 0)) (by (with_reducible repeat (first | refine blk_drewN ?_ _ | refine blk_drew ?_ | refine blk_alloc ?_ _)); refine blk_put (cs := #[u261000, u261001, u261002]) ?_ 0 _ rfl; exact bs BK260.out) hg (Kd.R_ne HO_261001.out BK260.out (by decide))); have n4_ := Aside0.mk (blk_grown (g := gb263) (o := .cells #[.int .i64 ((rd_T62 (rd_L5 l0_1 x11_1) x18_2).f0), .int .i64 ((rd_T62 (rd_L5 l0_1 x11_1) x18_2).f1)] 62 (0, 0)) (by (with_reducible repeat (first | refine blk_drewN ?_ _ | refine blk_drew ?_ | refine blk_alloc ?_ _)); refine blk_far ?_ NB263_260.out _; exact bs BK263.out) hg (Kd.R_ne HO_261001.out BK263.out (by decide))); have n5_ := Aside0.mk (Kd.R_over' (by (with_reducible repeat (first | apply Kd.R_alloc | apply Kd.R_drewN | apply Kd.R_drew)); exact (Kd.R_mono (Kd.R_far (p := ⟨gb260, 0, none⟩) (Kd.R_types HO266.out BK260.out (by decide)) (fun _ hk => hk.2) (.slice Ao26 y264.length co26)) (fun _ h_ => h_.1))) (Kd.R_typed (by (with_reducible repeat (first | apply Kd.R_alloc | apply Kd.R_drewN | apply Kd.R_drew)); exact (Kd.R_mono (Kd.R_far (p := ⟨gb260, 0, none⟩) (Kd.R_types HO_261001.out BK260.out (by decide)) (fun _ hk => hk.2) (.slice Ao26 y264.length co26)) (fun _ h_ => h_.1)))) (by decide) hg); have n6_ := Aside0.mk (hb); have n7_ := Aside0.mk (ho); clear HO_261001; replace HO_261002 := n0_; replace BK258 := n1_; replace BK259 := n2_; replace BK260 := n3_; replace BK263 := n4_; replace HO266 := n5_; replace HB := n6_; have HO269 := n7_; clear n0_ n1_ n2_ n3_ n4_ n5_ n6_ n7_; clear ho hb hg hat; obtain ⟨Ao29, co29, eo29⟩ := Kd.R_slice HO269.out; subst eo29; obtain ⟨hcz30_0, hcz30_1, hcz30_2, hfz30_0, hfz30_1, hfz30_2⟩ := bz3 BK260.out) | ((with_reducible refine gate_builtin (b := .append) (xs := #[.tmp 36, .tmp 38]) rfl ?_); at_builtin; refine Kd.R_append (Kd.int .i64) (w0 := w) w.heap.size rfl (.tmp 36) (.tmp 38) 46 3 (.int .i64 0) 8 rfl Try.underlying46 info3 rfl (by decide) (by omega) u261002 x261002_2 x18_2 [.int .i64 x18_2] (fun k_ => some k_ ≠ (.slice Ao29 y267.length co29 : Value).ownBlock) (fun _ => False) rfl (by first | (go_simp; done) | (go_simp; rfl)) ?aP (fun _ hk => hk.elim) ?aF ?aO ?aB ?aS ?aL ?_; (case aP => exact rfl); (case aB => exact (by repeat (first | (with_reducible first | exact bw HB.out | refine bset ?_ | apply bA | apply bN | apply bD) | exact HB.out))); (case aF => exact (fun k_ hk => Kd.fresh' (Kd.R_lt (by (with_reducible repeat (first | apply Kd.R_alloc | apply Kd.R_drewN | apply Kd.R_drew)); exact (Kd.R_mono (Kd.R_far (p := ⟨gb260, 1, none⟩) (Kd.R_types HO269.out BK260.out (by decide)) (fun _ hk => hk.2) (.slice Ao29 y267.length co29)) (fun _ h_ => h_.1)))) k_ hk)); (case aO => exact (by (with_reducible repeat (first | apply Kd.R_alloc | apply Kd.R_drewN | apply Kd.R_drew)); exact Kd.R_mono (Kd.R_far (p := ⟨gb260, 1, none⟩) (Kd.R_types HO_261002.out BK260.out (by decide)) (fun _ hk => hk.2) (.slice Ao29 y267.length co29)) (fun _ hk => hk.1.2))); (case aS => exact (below_size (by repeat (first | (with_reducible first | exact bw HB.out | refine bset ?_ | apply bA | apply bN | apply bD) | exact HB.out)))); (case aL => have := LMc16.out; omega); intro v271 w31 ho hb hg hat; rw [← Ny270.out] at ho; have n0_ := Aside0.mk (blk_grown (g := gb258) (o := .cells #[.int .i64 a0_0, .slice (some ad261) l0_1.length c0_1] 32 (0, 0)) (by (with_reducible repeat (first | refine blk_drewN ?_ _ | refine blk_drew ?_ | refine blk_alloc ?_ _)); refine blk_far ?_ NB258_260.out _; exact bs BK258.out) hg (Kd.R_ne HO_261002.out BK258.out (by decide))); have n1_ := Aside0.mk (blk_grown (g := gb259) (o := .cells #[.slice none 0 0, .slice none 0 0, .slice none 0 0] 48 (0, 0)) (by (with_reducible repeat (first | refine blk_drewN ?_ _ | refine blk_drew ?_ | refine blk_alloc ?_ _)); refine blk_far ?_ NB259_260.out _; exact bs BK259.out) hg (Kd.R_ne HO_261002.out BK259.out (by decide))); have n2_ := Aside0.mk (blk_grown (g := gb260) (o := .cells #[.slice Ao26 y264.length co26, .slice Ao29 y267.length co29, u261002] 48 (0, 0)) (by (with_reducible repeat (first | refine blk_drewN ?_ _ | refine blk_drew ?_ | refine blk_alloc ?_ _)); refine blk_put (cs := #[.slice Ao26 y264.length co26, u261001, u261002]) ?_ 1 _ rfl; exact bs BK260.out) hg (Kd.R_ne HO_261002.out BK260.out (by decide))); have n3_ := Aside0.mk (blk_grown (g := gb263) (o := .cells #[.int .i64 ((rd_T62 (rd_L5 l0_1 x11_1) x18_2).f0), .int .i64 ((rd_T62 (rd_L5 l0_1 x11_1) x18_2).f1)] 62 (0, 0)) (by (with_reducible repeat (first | refine blk_drewN ?_ _ | refine blk_drew ?_ | refine blk_alloc ?_ _)); refine blk_far ?_ NB263_260.out _; exact bs BK263.out) hg (Kd.R_ne HO_261002.out BK263.out (by decide))); have n4_ := Aside0.mk (Kd.R_over' (by (with_reducible repeat (first | apply Kd.R_alloc | apply Kd.R_drewN | apply Kd.R_drew)); exact (Kd.R_mono (Kd.R_far (p := ⟨gb260, 1, none⟩) (Kd.R_types HO266.out BK260.out (by decide)) (fun _ hk => hk.2) (.slice Ao29 y267.length co29)) (fun _ h_ => h_.1))) (Kd.R_typed (by (with_reducible repeat (first | apply Kd.R_alloc | apply Kd.R_drewN | apply Kd.R_drew)); exact (Kd.R_mono (Kd.R_far (p := ⟨gb260, 1, none⟩) (Kd.R_types HO_261002.out BK260.out (by decide)) (fun _ hk => hk.2) (.slice Ao29 y267.length co29)) (fun _ h_ => h_.1)))) (by decide) hg); have n5_ := Aside0.mk (Kd.R_after (ok := (fun _ => True)) (by (with_reducible repeat (first | apply Kd.R_alloc | apply Kd.R_drewN | apply Kd.R_drew)); exact Kd.R_mono (Kd.R_far (p := ⟨gb260, 1, none⟩) (Kd.R_types HO269.out BK260.out (by decide)) (fun _ hk => hk.2) (.slice Ao29 y267.length co29)) (fun _ hk => ⟨trivial, hk.1⟩)) hg hat); have n6_ := Aside0.mk (hb); have n7_ := Aside0.mk (ho); clear HO_261002; replace BK258 := n0_; replace BK259 := n1_; replace BK260 := n2_; replace BK263 := n3_; replace HO266 := n4_; replace HO269 := n5_; replace HB := n6_; have HO272 := n7_; clear n0_ n1_ n2_ n3_ n4_ n5_ n6_ n7_; clear ho hb hg hat; obtain ⟨Ao32, co32, eo32⟩ := Kd.R_slice HO272.out; subst eo32; obtain ⟨hcz33_0, hcz33_1, hcz33_2, hfz33_0, hfz33_1, hfz33_2⟩ := bz3 BK260.out))
     go_roundg k2
     case measure => have := HK1.out; have := HK2.out; omega
     case rel => exact ⟨(wrap64 (x18_2 + 1)), (y264), (y267), (y270), (.slice Ao26 y264.length co26), (.slice Ao29 y267.length co29), (.slice Ao32 y270.length co32), (by first | rfl | (simp; done) | (simp [*]; done)), H', ⟨by have := HK1.out; have := HK2.out; omega⟩, ⟨by (with_reducible repeat (first | apply Kd.R_alloc | apply Kd.R_drewN | apply Kd.R_drew)); exact Kd.R_mono (Kd.R_far (p := ⟨gb260, 2, none⟩) (Kd.R_types HO266.out BK260.out (by decide)) (fun _ hk => hk.2) (.slice Ao32 y270.length co32)) (fun _ hk => trivial)⟩, ⟨by (with_reducible repeat (first | apply Kd.R_alloc | apply Kd.R_drewN | apply Kd.R_drew)); exact Kd.R_mono (Kd.R_far (p := ⟨gb260, 2, none⟩) (Kd.R_types HO269.out BK260.out (by decide)) (fun _ hk => hk.2) (.slice Ao32 y270.length co32)) (fun _ hk => hk.1.2)⟩, ⟨by (with_reducible repeat (first | apply Kd.R_alloc | apply Kd.R_drewN | apply Kd.R_drew)); exact Kd.R_mono (Kd.R_far (p := ⟨gb260, 2, none⟩) (Kd.R_types HO272.out BK260.out (by decide)) (fun _ hk => hk.2) (.slice Ao32 y270.length co32)) (fun _ hk => hk.1)⟩, ⟨by (with_reducible repeat (first | refine blk_drewN ?_ _ | refine blk_drew ?_ | refine blk_alloc ?_ _)); refine blk_far ?_ NB258_260.out _; exact bs BK258.out⟩, ⟨by (with_reducible repeat (first | refine blk_drewN ?_ _ | refine blk_drew ?_ | refine blk_alloc ?_ _)); refine blk_far ?_ NB259_260.out _; exact bs BK259.out⟩, ⟨by (with_reducible repeat (first | refine blk_drewN ?_ _ | refine blk_drew ?_ | refine blk_alloc ?_ _)); refine blk_put (cs := #[.slice Ao26 y264.length co26, .slice Ao29 y267.length co29, u261002]) ?_ 2 _ rfl; exact bs BK260.out⟩, ⟨by repeat (first | (with_reducible first | exact bw HB.out | refine bset ?_ | apply bA | apply bN | apply bD) | exact HB.out)⟩⟩

/-! ### impl_flat_next: function 48 -/
def impl_flat_next.f (l0_0 : List (S62)) (l0_1 : List Int) (l0_2 : List Int) (a1 : Int) : Option (Int) := if (wrap64 (a1 + 1)) < (l0_0.length : Int) then (if 0 ≤ (wrap64 (a1 + 1)) then (if (wrap64 (a1 + 1)) < (l0_1.length : Int) then (if 0 ≤ a1 then (if a1 < (l0_1.length : Int) then (if (rd l0_1 (wrap64 (a1 + 1))) = (rd l0_1 a1) then (some (wrap64 (a1 + 1))) else (some (-1))) else (none)) else (none)) else (none)) else (none)) else (some (-1))
set_option maxHeartbeats 8000000 in
set_option maxRecDepth 100000 in
theorem impl_flat_next.calls (A0_0 : Option Addr) (c0_0 : Nat) (l0_0 : List (S62)) (A0_1 : Option Addr) (c0_1 : Nat) (l0_1 : List Int) (A0_2 : Option Addr) (c0_2 : Nat) (l0_2 : List Int) (a1 : Int) (r : Int) (w : World) (hr0_0 : Kd.C k62 w A0_0 l0_0.length l0_0) (hc0_0 : l0_0.length ≤ c0_0) (hr0_1 : Kd.C (Kd.int .i64) w A0_1 l0_1.length l0_1) (hc0_1 : l0_1.length ≤ c0_1) (hr0_2 : Kd.C (Kd.int .i64) w A0_2 l0_2.length l0_2) (hc0_2 : l0_2.length ≤ c0_2) (h : impl_flat_next.f l0_0 l0_1 l0_2 a1 = some r) :
  Calls Try.prog 48 #[.agg #[.slice A0_0 l0_0.length c0_0, .slice A0_1 l0_1.length c0_1, .slice A0_2 l0_2.length c0_2], .int .i64 a1] w fun e w' => e = .returned (.int .i64 r) ∧ Below w.heap.size w w' := by
 have hu48 := Try.underlying48
 have HR0_0 := Aside0.mk hr0_0
 have HC0_0 := Aside0.mk hc0_0
 clear hr0_0 hc0_0
 have HR0_1 := Aside0.mk hr0_1
 have HC0_1 := Aside0.mk hc0_1
 clear hr0_1 hc0_1
 have HR0_2 := Aside0.mk hr0_2
 have HC0_2 := Aside0.mk hc0_2
 clear hr0_2 hc0_2
 have HB := Aside0.mk (Below.refl w.heap.size w)
 have H : (if (wrap64 (a1 + 1)) < (l0_0.length : Int) then (if 0 ≤ (wrap64 (a1 + 1)) then (if (wrap64 (a1 + 1)) < (l0_1.length : Int) then (if 0 ≤ a1 then (if a1 < (l0_1.length : Int) then (if (rd l0_1 (wrap64 (a1 + 1))) = (rd l0_1 a1) then (some (wrap64 (a1 + 1))) else (some (-1))) else (none)) else (none)) else (none)) else (none)) else (some (-1))) = some r := h
 clear h
 by_cases c3 : (wrap64 (a1 + 1)) < (l0_0.length : Int)
 rotate_left
 ·rw [if_neg c3] at H
  have c3b0 : decide ((wrap64 (a1 + 1)) < (l0_0.length : Int)) = false := decide_eq_false c3
  clear c3
  obtain rfl := Option.some.inj H
  go_enter Try.func48, Try.ntmps48
  have go_ := True.intro
  repeat ((first | go_quiet (first | ((with_reducible refine gate_dst (N := 2) rfl ?_); refine box_event ?hg (N := 2) ?hd (cs := #[.slice A0_0 l0_0.length c0_0, .slice A0_1 l0_1.length c0_1, .slice A0_2 l0_2.length c0_2]) (t := 48) ?hr ?_; (case hd => rfl); (case hg => rfl); (case hr => first | (go_simp; done) | (go_simp; rfl)); intro gb273 hg w14 hbox hb; have n0_ := Aside0.mk (below_step (bw HB.out) hb); have n1_ := Aside0.mk (hbox); have n2_ := ge_ hg HB.out; have n3_ := ge_ hg HB.out; replace HB := n0_; have BK273 := n1_; have GW273 := n2_; have GE273 := n3_; clear n0_ n1_ n2_ n3_; clear hb hbox hg; obtain ⟨hcz15_0, hcz15_1, hcz15_2, hfz15_0, hfz15_1, hfz15_2⟩ := bz3 BK273.out)) | clear go_); go_wp2_with (first | ((with_reducible refine gate_dst (N := 2) rfl ?_); refine box_event ?hg (N := 2) ?hd (cs := #[.slice A0_0 l0_0.length c0_0, .slice A0_1 l0_1.length c0_1, .slice A0_2 l0_2.length c0_2]) (t := 48) ?hr ?_; (case hd => rfl); (case hg => rfl); (case hr => first | (go_simp; done) | (go_simp; rfl)); intro gb273 hg w14 hbox hb; have n0_ := Aside0.mk (below_step (bw HB.out) hb); have n1_ := Aside0.mk (hbox); have n2_ := ge_ hg HB.out; have n3_ := ge_ hg HB.out; replace HB := n0_; have BK273 := n1_; have GW273 := n2_; have GE273 := n3_; clear n0_ n1_ n2_ n3_; clear hb hbox hg; obtain ⟨hcz15_0, hcz15_1, hcz15_2, hfz15_0, hfz15_1, hfz15_2⟩ := bz3 BK273.out)))
  go_ret
  exact ⟨by first | rfl | (simp [errW_none, errW_some] <;> rfl) | (simp [*, errW_none, errW_some] <;> rfl), by repeat (first | (with_reducible first | exact bw HB.out | refine bset ?_ | apply bA | apply bN | apply bD) | exact HB.out)⟩
 rw [if_pos c3] at H
 have c3b0 : decide ((wrap64 (a1 + 1)) < (l0_0.length : Int)) = true := decide_eq_true c3
 clear c3
 obtain ⟨ji4, hji4⟩ : ∃ j_ : Int, (wrap64 (a1 + 1)) = j_ := ⟨_, rfl⟩
 replace H : (if 0 ≤ (ji4) then (if (ji4) < (l0_1.length : Int) then (if 0 ≤ a1 then (if a1 < (l0_1.length : Int) then (if (rd l0_1 (ji4)) = (rd l0_1 a1) then (some ji4) else (some (-1))) else (none)) else (none)) else (none)) else (none)) = some r := by first | (rw [hji4] at H; exact H) | (simp only [hji4] at H ⊢; exact H)
 (try rw [hji4] at c3b0)
 have hji4w : (IntKind.i64.wrap (a1 + 1)) = ji4 := (i64_w _).trans hji4
 by_cases c5 : 0 ≤ (ji4)
 rotate_left
 ·rw [if_neg c5] at H
  exact absurd H (by simp)
 rw [if_pos c5] at H
 have c5b0 : decide (0 ≤ (ji4)) = true := decide_eq_true c5
 clear c5
 by_cases c6 : (ji4) < (l0_1.length : Int)
 rotate_left
 ·rw [if_neg c6] at H
  exact absurd H (by simp)
 rw [if_pos c6] at H
 have c6b0 : decide ((ji4) < (l0_1.length : Int)) = true := decide_eq_true c6
 clear c6
 by_cases c7 : 0 ≤ a1
 rotate_left
 ·rw [if_neg c7] at H
  exact absurd H (by simp)
 rw [if_pos c7] at H
 have c7b0 : decide (0 ≤ a1) = true := decide_eq_true c7
 clear c7
 by_cases c8 : a1 < (l0_1.length : Int)
 rotate_left
 ·rw [if_neg c8] at H
  exact absurd H (by simp)
 rw [if_pos c8] at H
 have c8b0 : decide (a1 < (l0_1.length : Int)) = true := decide_eq_true c8
 clear c8
 by_cases c9 : (rd l0_1 (ji4)) = (rd l0_1 a1)
 rotate_left
 ·rw [if_neg c9] at H
  have c9b0 : ((rd l0_1 (ji4)) == (rd l0_1 a1)) = false := beq_eq_false_iff_ne.mpr c9
  have c9b1 : ((rd l0_1 (ji4)) != (rd l0_1 a1)) = true := bne_iff_ne.mpr c9
  obtain rfl := Option.some.inj H
  go_enter Try.func48, Try.ntmps48
  have go_ := True.intro
  repeat ((first | go_quiet (first | ((with_reducible refine gate_dst (N := 2) rfl ?_); refine box_event ?hg (N := 2) ?hd (cs := #[.slice A0_0 l0_0.length c0_0, .slice A0_1 l0_1.length c0_1, .slice A0_2 l0_2.length c0_2]) (t := 48) ?hr ?_; (case hd => rfl); (case hg => rfl); (case hr => first | (go_simp; done) | (go_simp; rfl)); intro gb273 hg w12 hbox hb; have n0_ := Aside0.mk (below_step (bw HB.out) hb); have n1_ := Aside0.mk (hbox); have n2_ := ge_ hg HB.out; have n3_ := ge_ hg HB.out; replace HB := n0_; have BK273 := n1_; have GW273 := n2_; have GE273 := n3_; clear n0_ n1_ n2_ n3_; clear hb hbox hg; obtain ⟨hcz13_0, hcz13_1, hcz13_2, hfz13_0, hfz13_1, hfz13_2⟩ := bz3 BK273.out; have p274 : 0 ≤ ((ji4) : Int) := of_decide_eq_true (by first | (with_reducible assumption) | assumption); have q274 : (ji4) < (l0_1.length : Int) := of_decide_eq_true (by first | (with_reducible assumption) | assumption); obtain ⟨ad274, e274, hx274_0⟩ := Kd.at_int HR0_1.out (ji4) p274 q274; cases e274; replace hx274_0 := (HB.out.cell (World.block_lt_of_cell? w _ hx274_0)).trans hx274_0; replace p274 := eq_true p274; replace q274 := eq_true q274; have p275 : 0 ≤ (a1 : Int) := of_decide_eq_true (by first | (with_reducible assumption) | assumption); have q275 : a1 < (l0_1.length : Int) := of_decide_eq_true (by first | (with_reducible assumption) | assumption); obtain ⟨ad275, e275, hx275_0⟩ := Kd.at_int HR0_1.out a1 p275 q275; obtain rfl : ad274 = ad275 := (by injection e275); replace hx275_0 := (HB.out.cell (World.block_lt_of_cell? w _ hx275_0)).trans hx275_0; replace p275 := eq_true p275; replace q275 := eq_true q275)) | clear go_); go_wp2_with (first | ((with_reducible refine gate_dst (N := 2) rfl ?_); refine box_event ?hg (N := 2) ?hd (cs := #[.slice A0_0 l0_0.length c0_0, .slice A0_1 l0_1.length c0_1, .slice A0_2 l0_2.length c0_2]) (t := 48) ?hr ?_; (case hd => rfl); (case hg => rfl); (case hr => first | (go_simp; done) | (go_simp; rfl)); intro gb273 hg w12 hbox hb; have n0_ := Aside0.mk (below_step (bw HB.out) hb); have n1_ := Aside0.mk (hbox); have n2_ := ge_ hg HB.out; have n3_ := ge_ hg HB.out; replace HB := n0_; have BK273 := n1_; have GW273 := n2_; have GE273 := n3_; clear n0_ n1_ n2_ n3_; clear hb hbox hg; obtain ⟨hcz13_0, hcz13_1, hcz13_2, hfz13_0, hfz13_1, hfz13_2⟩ := bz3 BK273.out; have p274 : 0 ≤ ((ji4) : Int) := of_decide_eq_true (by first | (with_reducible assumption) | assumption); have q274 : (ji4) < (l0_1.length : Int) := of_decide_eq_true (by first | (with_reducible assumption) | assumption); obtain ⟨ad274, e274, hx274_0⟩ := Kd.at_int HR0_1.out (ji4) p274 q274; cases e274; replace hx274_0 := (HB.out.cell (World.block_lt_of_cell? w _ hx274_0)).trans hx274_0; replace p274 := eq_true p274; replace q274 := eq_true q274; have p275 : 0 ≤ (a1 : Int) := of_decide_eq_true (by first | (with_reducible assumption) | assumption); have q275 : a1 < (l0_1.length : Int) := of_decide_eq_true (by first | (with_reducible assumption) | assumption); obtain ⟨ad275, e275, hx275_0⟩ := Kd.at_int HR0_1.out a1 p275 q275; obtain rfl : ad274 = ad275 := (by injection e275); replace hx275_0 := (HB.out.cell (World.block_lt_of_cell? w _ hx275_0)).trans hx275_0; replace p275 := eq_true p275; replace q275 := eq_true q275)))
  go_ret
  exact ⟨by first | rfl | (simp [errW_none, errW_some] <;> rfl) | (simp only [← hji4]; first | rfl | (simp [errW_none, errW_some] <;> rfl)) | (simp [*, errW_none, errW_some] <;> rfl), by repeat (first | (with_reducible first | exact bw HB.out | refine bset ?_ | apply bA | apply bN | apply bD) | exact HB.out)⟩
 rw [if_pos c9] at H
 have c9b0 : ((rd l0_1 (ji4)) == (rd l0_1 a1)) = true := beq_iff_eq.mpr c9
 have c9b1 : ((rd l0_1 (ji4)) != (rd l0_1 a1)) = false := bne_eq_false_iff_eq.mpr c9
 clear c9
 obtain rfl := Option.some.inj H
 go_enter Try.func48, Try.ntmps48
 have go_ := True.intro
 repeat ((first | go_quiet (first | ((with_reducible refine gate_dst (N := 2) rfl ?_); refine box_event ?hg (N := 2) ?hd (cs := #[.slice A0_0 l0_0.length c0_0, .slice A0_1 l0_1.length c0_1, .slice A0_2 l0_2.length c0_2]) (t := 48) ?hr ?_; (case hd => rfl); (case hg => rfl); (case hr => first | (go_simp; done) | (go_simp; rfl)); intro gb273 hg w10 hbox hb; have n0_ := Aside0.mk (below_step (bw HB.out) hb); have n1_ := Aside0.mk (hbox); have n2_ := ge_ hg HB.out; have n3_ := ge_ hg HB.out; replace HB := n0_; have BK273 := n1_; have GW273 := n2_; have GE273 := n3_; clear n0_ n1_ n2_ n3_; clear hb hbox hg; obtain ⟨hcz11_0, hcz11_1, hcz11_2, hfz11_0, hfz11_1, hfz11_2⟩ := bz3 BK273.out; have p274 : 0 ≤ ((ji4) : Int) := of_decide_eq_true (by first | (with_reducible assumption) | assumption); have q274 : (ji4) < (l0_1.length : Int) := of_decide_eq_true (by first | (with_reducible assumption) | assumption); obtain ⟨ad274, e274, hx274_0⟩ := Kd.at_int HR0_1.out (ji4) p274 q274; cases e274; replace hx274_0 := (HB.out.cell (World.block_lt_of_cell? w _ hx274_0)).trans hx274_0; replace p274 := eq_true p274; replace q274 := eq_true q274; have p275 : 0 ≤ (a1 : Int) := of_decide_eq_true (by first | (with_reducible assumption) | assumption); have q275 : a1 < (l0_1.length : Int) := of_decide_eq_true (by first | (with_reducible assumption) | assumption); obtain ⟨ad275, e275, hx275_0⟩ := Kd.at_int HR0_1.out a1 p275 q275; obtain rfl : ad274 = ad275 := (by injection e275); replace hx275_0 := (HB.out.cell (World.block_lt_of_cell? w _ hx275_0)).trans hx275_0; replace p275 := eq_true p275; replace q275 := eq_true q275)) | clear go_); go_wp2_with (first | ((with_reducible refine gate_dst (N := 2) rfl ?_); refine box_event ?hg (N := 2) ?hd (cs := #[.slice A0_0 l0_0.length c0_0, .slice A0_1 l0_1.length c0_1, .slice A0_2 l0_2.length c0_2]) (t := 48) ?hr ?_; (case hd => rfl); (case hg => rfl); (case hr => first | (go_simp; done) | (go_simp; rfl)); intro gb273 hg w10 hbox hb; have n0_ := Aside0.mk (below_step (bw HB.out) hb); have n1_ := Aside0.mk (hbox); have n2_ := ge_ hg HB.out; have n3_ := ge_ hg HB.out; replace HB := n0_; have BK273 := n1_; have GW273 := n2_; have GE273 := n3_; clear n0_ n1_ n2_ n3_; clear hb hbox hg; obtain ⟨hcz11_0, hcz11_1, hcz11_2, hfz11_0, hfz11_1, hfz11_2⟩ := bz3 BK273.out; have p274 : 0 ≤ ((ji4) : Int) := of_decide_eq_true (by first | (with_reducible assumption) | assumption); have q274 : (ji4) < (l0_1.length : Int) := of_decide_eq_true (by first | (with_reducible assumption) | assumption); obtain ⟨ad274, e274, hx274_0⟩ := Kd.at_int HR0_1.out (ji4) p274 q274; cases e274; replace hx274_0 := (HB.out.cell (World.block_lt_of_cell? w _ hx274_0)).trans hx274_0; replace p274 := eq_true p274; replace q274 := eq_true q274; have p275 : 0 ≤ (a1 : Int) := of_decide_eq_true (by first | (with_reducible assumption) | assumption); have q275 : a1 < (l0_1.length : Int) := of_decide_eq_true (by first | (with_reducible assumption) | assumption); obtain ⟨ad275, e275, hx275_0⟩ := Kd.at_int HR0_1.out a1 p275 q275; obtain rfl : ad274 = ad275 := (by injection e275); replace hx275_0 := (HB.out.cell (World.block_lt_of_cell? w _ hx275_0)).trans hx275_0; replace p275 := eq_true p275; replace q275 := eq_true q275)))
 go_ret
 exact ⟨by first | rfl | (simp [errW_none, errW_some] <;> rfl) | (simp only [← hji4]; first | rfl | (simp [errW_none, errW_some] <;> rfl)) | (simp [*, errW_none, errW_some] <;> rfl), by repeat (first | (with_reducible first | exact bw HB.out | refine bset ?_ | apply bA | apply bN | apply bD) | exact HB.out)⟩

/-! ### impl_flat_headsWith: function 42 -/
mutual
def impl_flat_headsWith.l0 : Nat → List (S43) → Int → Int → List (S62) → List Int → List Int → Option (List Int × Bool)
 | 0, _, _, _, _, _, _ => none
 | k + 1, x6, x19, x20, x277000, x277001, x277002 => if x20 < x19 then ((impl_flat_next.f x277000 x277001 x277002 x20).bind fun t283 => (if t283 ≥ 0 then (if x6.length < 8796093022208 then (impl_flat_headsWith.l0 k (x6 ++ [(⟨x20, t283⟩ : S43)]) x19 (wrap64 (x20 + 1)) x277000 x277001 x277002) else (none)) else (impl_flat_headsWith.l0 k x6 x19 (wrap64 (x20 + 1)) x277000 x277001 x277002))) else (if 0 ≤ (x277000.length : Int) then (if ((x277000.length : Int) : Int).toNat ≤ 35184372088832 then (impl_flat_headsWith.l1 k x6 (List.replicate ((x277000.length : Int) : Int).toNat 0) (wrap64 ((x277000.length : Int) + 1)) 0 x277000 x277001 x277002) else (none)) else (none))
def impl_flat_headsWith.l1 : Nat → List (S43) → List Int → Int → Int → List (S62) → List Int → List Int → Option (List Int × Bool)
 | 0, _, _, _, _, _, _, _ => none
 | k + 1, x6, x9, x42, x43, x277000, x277001, x277002 => if x43 < x42 then (impl_flat_headsWith.l2 k x6 x9 false x42 x43 x6 (x6.length : Int) 0 x277000 x277001 x277002) else (some (([] : List Int), false))
def impl_flat_headsWith.l2 : Nat → List (S43) → List Int → Bool → Int → Int → List (S43) → Int → Int → List (S62) → List Int → List Int → Option (List Int × Bool)
 | 0, _, _, _, _, _, _, _, _, _, _, _ => none
 | k + 1, x6, x9, x10, x42, x43, x45, x46, x47, x277000, x277001, x277002 => if x47 < x46 then (if 0 ≤ x47 then (if x47 < (x45.length : Int) then (if 0 ≤ ((rd_T43 x45 x47).f0) then (if ((rd_T43 x45 x47).f0) < (x9.length : Int) then (if ((rd_T43 x45 x47).f0) < (x277000.length : Int) then (if 0 ≤ ((rd_T43 x45 x47).f1) then (if ((rd_T43 x45 x47).f1) < (x9.length : Int) then (if (wrap64 ((rd x9 ((rd_T43 x45 x47).f0)) + ((rd_T62 x277000 ((rd_T43 x45 x47).f0)).f1))) > (rd x9 ((rd_T43 x45 x47).f1)) then (impl_flat_headsWith.l2 k x6 (x9.set (((rd_T43 x45 x47).f1) : Int).toNat (wrap64 ((rd x9 ((rd_T43 x45 x47).f0)) + ((rd_T62 x277000 ((rd_T43 x45 x47).f0)).f1)))) true x42 x43 x45 x46 (wrap64 (x47 + 1)) x277000 x277001 x277002) else (impl_flat_headsWith.l2 k x6 x9 x10 x42 x43 x45 x46 (wrap64 (x47 + 1)) x277000 x277001 x277002)) else (none)) else (none)) else (none)) else (none)) else (none)) else (none)) else (none)) else (if x10 = true then (impl_flat_headsWith.l1 k x6 x9 x42 (wrap64 (x43 + 1)) x277000 x277001 x277002) else (some (x9, true)))
end
def impl_flat_headsWith.f (k : Nat) (l0_0 : List (S62)) (l0_1 : List Int) (l0_2 : List Int) (l1 : List (S43)) : Option (List Int × Bool) := (some (([] : List (S43)) : List (S43))).bind fun y277 => (if y277.length + l1.length < 8796093022208 then (impl_flat_headsWith.l0 k (y277 ++ l1) (l0_0.length : Int) 0 l0_0 l0_1 l0_2) else (none))
theorem impl_flat_headsWith.mono_l : ∀ k, (∀ y0 y1 y2 y3 y4 y5, LeO (impl_flat_headsWith.l0 k y0 y1 y2 y3 y4 y5) (impl_flat_headsWith.l0 (k + 1) y0 y1 y2 y3 y4 y5)) ∧ (∀ y0 y1 y2 y3 y4 y5 y6, LeO (impl_flat_headsWith.l1 k y0 y1 y2 y3 y4 y5 y6) (impl_flat_headsWith.l1 (k + 1) y0 y1 y2 y3 y4 y5 y6)) ∧ (∀ y0 y1 y2 y3 y4 y5 y6 y7 y8 y9 y10, LeO (impl_flat_headsWith.l2 k y0 y1 y2 y3 y4 y5 y6 y7 y8 y9 y10) (impl_flat_headsWith.l2 (k + 1) y0 y1 y2 y3 y4 y5 y6 y7 y8 y9 y10))
 | 0 => ⟨fun _ _ _ _ _ _ r h => by simp [impl_flat_headsWith.l0] at h, fun _ _ _ _ _ _ _ r h => by simp [impl_flat_headsWith.l1] at h, fun _ _ _ _ _ _ _ _ _ _ _ r h => by simp [impl_flat_headsWith.l2] at h⟩
 | k + 1 => by
  obtain ⟨ih0, ih1, ih2⟩ := impl_flat_headsWith.mono_l k
  refine ⟨?_, ?_, ?_⟩
  ·intro y0 y1 y2 y3 y4 y5
   unfold impl_flat_headsWith.l0
   repeat' first
   | (with_reducible exact ih0 _ _ _ _ _ _)
   | (with_reducible exact ih1 _ _ _ _ _ _ _)
   | (with_reducible exact ih2 _ _ _ _ _ _ _ _ _ _ _)
   | (with_reducible exact LeO.refl _)
   | (with_reducible exact LeO.none _)
   | (with_reducible refine LeO.ite ?_ ?_)
   | (with_reducible refine LeO.bind ?_ (fun _ => ?_))
   | exact ih0 _ _ _ _ _ _
   | exact ih1 _ _ _ _ _ _ _
   | exact ih2 _ _ _ _ _ _ _ _ _ _ _
   | exact LeO.none _
   | refine LeO.ite ?_ ?_
   | refine LeO.bind ?_ (fun _ => ?_)
  ·intro y0 y1 y2 y3 y4 y5 y6
   unfold impl_flat_headsWith.l1
   repeat' first
   | (with_reducible exact ih0 _ _ _ _ _ _)
   | (with_reducible exact ih1 _ _ _ _ _ _ _)
   | (with_reducible exact ih2 _ _ _ _ _ _ _ _ _ _ _)
   | (with_reducible exact LeO.refl _)
   | (with_reducible exact LeO.none _)
   | (with_reducible refine LeO.ite ?_ ?_)
   | (with_reducible refine LeO.bind ?_ (fun _ => ?_))
   | exact ih0 _ _ _ _ _ _
   | exact ih1 _ _ _ _ _ _ _
   | exact ih2 _ _ _ _ _ _ _ _ _ _ _
   | exact LeO.none _
   | refine LeO.ite ?_ ?_
   | refine LeO.bind ?_ (fun _ => ?_)
  ·intro y0 y1 y2 y3 y4 y5 y6 y7 y8 y9 y10
   unfold impl_flat_headsWith.l2
   repeat' first
   | (with_reducible exact ih0 _ _ _ _ _ _)
   | (with_reducible exact ih1 _ _ _ _ _ _ _)
   | (with_reducible exact ih2 _ _ _ _ _ _ _ _ _ _ _)
   | (with_reducible exact LeO.refl _)
   | (with_reducible exact LeO.none _)
   | (with_reducible refine LeO.ite ?_ ?_)
   | (with_reducible refine LeO.bind ?_ (fun _ => ?_))
   | exact ih0 _ _ _ _ _ _
   | exact ih1 _ _ _ _ _ _ _
   | exact ih2 _ _ _ _ _ _ _ _ _ _ _
   | exact LeO.none _
   | refine LeO.ite ?_ ?_
   | refine LeO.bind ?_ (fun _ => ?_)
theorem impl_flat_headsWith.mono : ∀ a0 a1 a2 a3 k, LeO (impl_flat_headsWith.f k a0 a1 a2 a3) (impl_flat_headsWith.f (k + 1) a0 a1 a2 a3) := by
 intro a0 a1 a2 a3 k
 obtain ⟨ih0, ih1, ih2⟩ := impl_flat_headsWith.mono_l k
 unfold impl_flat_headsWith.f
 repeat' first
   | (with_reducible exact ih0 _ _ _ _ _ _)
   | (with_reducible exact ih1 _ _ _ _ _ _ _)
   | (with_reducible exact ih2 _ _ _ _ _ _ _ _ _ _ _)
   | (with_reducible exact LeO.refl _)
   | (with_reducible exact LeO.none _)
   | (with_reducible refine LeO.ite ?_ ?_)
   | (with_reducible refine LeO.bind ?_ (fun _ => ?_))
   | exact ih0 _ _ _ _ _ _
   | exact ih1 _ _ _ _ _ _ _
   | exact ih2 _ _ _ _ _ _ _ _ _ _ _
   | exact LeO.none _
   | refine LeO.ite ?_ ?_
   | refine LeO.bind ?_ (fun _ => ?_)
set_option maxHeartbeats 8000000 in
set_option maxRecDepth 100000 in
theorem impl_flat_headsWith.calls (k : Nat) (A0_0 : Option Addr) (c0_0 : Nat) (l0_0 : List (S62)) (A0_1 : Option Addr) (c0_1 : Nat) (l0_1 : List Int) (A0_2 : Option Addr) (c0_2 : Nat) (l0_2 : List Int) (A1 : Option Addr) (c1 : Nat) (l1 : List (S43)) (r1 : List Int) (r2 : Bool) (w : World) (hr0_0 : Kd.C k62 w A0_0 l0_0.length l0_0) (hc0_0 : l0_0.length ≤ c0_0) (hr0_1 : Kd.C (Kd.int .i64) w A0_1 l0_1.length l0_1) (hc0_1 : l0_1.length ≤ c0_1) (hr0_2 : Kd.C (Kd.int .i64) w A0_2 l0_2.length l0_2) (hc0_2 : l0_2.length ≤ c0_2) (hr1 : Kd.C k43 w A1 l1.length l1) (hc1 : l1.length ≤ c1) (h : impl_flat_headsWith.f k l0_0 l0_1 l0_2 l1 = some (r1, r2)) :
  Calls Try.prog 42 #[.agg #[.slice A0_0 l0_0.length c0_0, .slice A0_1 l0_1.length c0_1, .slice A0_2 l0_2.length c0_2], .slice A1 l1.length c1] w fun e w' => ∃ v0_ : Value, e = .returned (.tuple #[v0_, .bool r2]) ∧ Kd.R (Kd.int .i64) 3 w' w.heap.size (fun _ => True) v0_ r1 ∧ Below w.heap.size w w' := by
 have hu48 := Try.underlying48
 have hu43 := Try.underlying43
 have HR0_0 := Aside0.mk hr0_0
 have HC0_0 := Aside0.mk hc0_0
 clear hr0_0 hc0_0
 have HR0_1 := Aside0.mk hr0_1
 have HC0_1 := Aside0.mk hc0_1
 clear hr0_1 hc0_1
 have HR0_2 := Aside0.mk hr0_2
 have HC0_2 := Aside0.mk hc0_2
 clear hr0_2 hc0_2
 have HR1 := Aside0.mk hr1
 have HC1 := Aside0.mk hc1
 clear hr1 hc1
 have HB := Aside0.mk (Below.refl w.heap.size w)
 have H : ((some (([] : List (S43)) : List (S43))).bind fun y277 => (if y277.length + l1.length < 8796093022208 then (impl_flat_headsWith.l0 k (y277 ++ l1) (l0_0.length : Int) 0 l0_0 l0_1 l0_2) else (none))) = some (r1, r2) := h
 clear h
 obtain ⟨y277, hy277⟩ : ∃ y_ : List (S43), y_ = (([] : List (S43))) := ⟨_, rfl⟩
 replace H : (if y277.length + l1.length < 8796093022208 then (impl_flat_headsWith.l0 k (y277 ++ l1) (l0_0.length : Int) 0 l0_0 l0_1 l0_2) else (none)) = some (r1, r2) := by first | (rw [hy277]; with_reducible exact H) | (have H2_ := (Option.bind_some _ _).symm.trans H; rw [hy277]; with_reducible exact H2_) | (have H2_ := (Option.bind_some _ _).symm.trans H; with_reducible exact H2_) | with_reducible exact H | (rw [hy277]; exact H) | exact H
 have Ny277 := Aside0.mk hy277
 clear hy277
 by_cases c3 : y277.length + l1.length < 8796093022208
 rotate_left
 ·rw [if_neg c3] at H
  exact absurd H (by simp)
 rw [if_pos c3] at H
 have LMc3 := Aside0.mk c3
 clear c3
 obtain ⟨y280, hy280⟩ : ∃ y_ : List (S43), y_ = (y277 ++ l1) := ⟨_, rfl⟩
 replace H : (impl_flat_headsWith.l0 k y280 (l0_0.length : Int) 0 l0_0 l0_1 l0_2) = some (r1, r2) := by first | (rw [hy280]; with_reducible exact H) | (have H2_ := (Option.bind_some _ _).symm.trans H; rw [hy280]; with_reducible exact H2_) | (have H2_ := (Option.bind_some _ _).symm.trans H; with_reducible exact H2_) | with_reducible exact H | (rw [hy280]; exact H) | exact H
 have Ny280 := Aside0.mk hy280
 clear hy280
 have H' := Aside0.mk H
 clear H
 go_enter Try.func42, Try.ntmps42
 have go_ := True.intro
 repeat ((first | go_quiet (first | ((with_reducible refine gate_dst (N := 2) rfl ?_); refine box_event ?hg (N := 2) ?hd (cs := #[.slice A0_0 l0_0.length c0_0, .slice A0_1 l0_1.length c0_1, .slice A0_2 l0_2.length c0_2]) (t := 48) ?hr ?_; (case hd => rfl); (case hg => rfl); (case hr => first | (go_simp; done) | (go_simp; rfl)); intro gb276 hg w4 hbox hb; have n0_ := Aside0.mk (below_step (bw HB.out) hb); have n1_ := Aside0.mk (hbox); have n2_ := ge_ hg HB.out; have n3_ := ge_ hg HB.out; replace HB := n0_; have BK276 := n1_; have GW276 := n2_; have GE276 := n3_; clear n0_ n1_ n2_ n3_; clear hb hbox hg) | ((with_reducible refine gate_dst (N := 14) rfl ?_); refine Kd.R_lit k43 _ 43 ?hg (N := 14) ?hd (xs := ([] : List (S43))) (inner := []) (ok := fun _ => True) (okp := fun _ => True) ?hr ?hp (fun _ hk => hk) trivial (Below.refl _ _) (Nat.le_refl _) (by simp) ?_; (case hd => rfl); (case hg => rfl); (case hr => first | (go_simp; done) | (go_simp; rfl)); (case hp => exact (Reps.none _ _)); intro v278 w5 ho6 hb hg_ hnew_; clear hg_ hnew_; (first | rw [← Ny277.out] at ho6 | (simp only [Int.reduceToNat] at ho6; rw [← Ny277.out] at ho6)); have n0_ := Aside0.mk (Kd.R_lower ho6 (below_size (by repeat (first | (with_reducible first | exact bw HB.out | refine bset ?_ | apply bA | apply bN | apply bD) | exact HB.out)))); have n1_ := Aside0.mk (blk_below (bs BK276.out) hb); have n2_ := Aside0.mk (below_step (by repeat (first | (with_reducible first | exact bw HB.out | refine bset ?_ | apply bA | apply bN | apply bD) | exact HB.out)) hb); have HO279 := n0_; replace BK276 := n1_; replace HB := n2_; clear n0_ n1_ n2_; clear hb ho6) | ((with_reducible refine gate_builtin (b := .append) (xs := #[.tmp 14, .tmp 15]) rfl ?_); at_builtin; refine Kd.R_append_rows k43 (w0 := w) w.heap.size rfl (.tmp 14) (.tmp 15) 25 43 (.agg #[(.int .i64 0), (.int .i64 0)]) 16 rfl Try.underlying25 info43 rfl (by decide) (by omega) v278 y277 l1 _ _ _ (fun _ => True) (fun _ => False) rfl rfl ?aO ?aR (fun _ _ h => h) (fun _ h => h.elim) ?aF ?aB ?aS ?aL ?_; (case aR => first | exact bC HR1.out HB.out | exact Kd.C_below HR1.out HB.out); (case aB => exact (by repeat (first | (with_reducible first | exact bw HB.out | refine bset ?_ | apply bA | apply bN | apply bD) | exact HB.out))); (case aF => exact (fun _ _ => trivial)); (case aO => exact (bR HO279.out)); (case aS => exact (below_size (by repeat (first | (with_reducible first | exact bw HB.out | refine bset ?_ | apply bA | apply bN | apply bD) | exact HB.out)))); (case aL => have := LMc3.out; omega); intro v281 w7 ho hb hg hat; rw [← Ny280.out] at ho; have n0_ := Aside0.mk (blk_grown (bs BK276.out) hg (Kd.R_ne HO279.out BK276.out (by decide))); have n1_ := Aside0.mk (hb); have n2_ := Aside0.mk (ho); clear HO279; replace BK276 := n0_; replace HB := n1_; have HO282 := n2_; clear n0_ n1_ n2_; clear ho hb hg hat; obtain ⟨hcz8_0, hcz8_1, hcz8_2, hfz8_0, hfz8_1, hfz8_2⟩ := bz3 BK276.out)) | clear go_); go_wp2_with (first | ((with_reducible refine gate_dst (N := 2) rfl ?_); refine box_event ?hg (N := 2) ?hd (cs := #[.slice A0_0 l0_0.length c0_0, .slice A0_1 l0_1.length c0_1, .slice A0_2 l0_2.length c0_2]) (t := 48) ?hr ?_; (case hd => rfl); (case hg => rfl); (case hr => first | (go_simp; done) | (go_simp; rfl)); intro gb276 hg w4 hbox hb; have n0_ := Aside0.mk (below_step (bw HB.out) hb); have n1_ := Aside0.mk (hbox); have n2_ := ge_ hg HB.out; have n3_ := ge_ hg HB.out; replace HB := n0_; have BK276 := n1_; have GW276 := n2_; have GE276 := n3_; clear n0_ n1_ n2_ n3_; clear hb hbox hg) | ((with_reducible refine gate_dst (N := 14) rfl ?_); refine Kd.R_lit k43 _ 43 ?hg (N := 14) ?hd (xs := ([] : List (S43))) (inner := []) (ok := fun _ => True) (okp := fun _ => True) ?hr ?hp (fun _ hk => hk) trivial (Below.refl _ _) (Nat.le_refl _) (by simp) ?_; (case hd => rfl); (case hg => rfl); (case hr => first | (go_simp; done) | (go_simp; rfl)); (case hp => exact (Reps.none _ _)); intro v278 w5 ho6 hb hg_ hnew_; clear hg_ hnew_; (first | rw [← Ny277.out] at ho6 | (simp only [Int.reduceToNat] at ho6; rw [← Ny277.out] at ho6)); have n0_ := Aside0.mk (Kd.R_lower ho6 (below_size (by repeat (first | (with_reducible first | exact bw HB.out | refine bset ?_ | apply bA | apply bN | apply bD) | exact HB.out)))); have n1_ := Aside0.mk (blk_below (bs BK276.out) hb); have n2_ := Aside0.mk (below_step (by repeat (first | (with_reducible first | exact bw HB.out | refine bset ?_ | apply bA | apply bN | apply bD) | exact HB.out)) hb); have HO279 := n0_; replace BK276 := n1_; replace HB := n2_; clear n0_ n1_ n2_; clear hb ho6) | ((with_reducible refine gate_builtin (b := .append) (xs := #[.tmp 14, .tmp 15]) rfl ?_); at_builtin; refine Kd.R_append_rows k43 (w0 := w) w.heap.size rfl (.tmp 14) (.tmp 15) 25 43 (.agg #[(.int .i64 0), (.int .i64 0)]) 16 rfl Try.underlying25 info43 rfl (by decide) (by omega) v278 y277 l1 _ _ _ (fun _ => True) (fun _ => False) rfl rfl ?aO ?aR (fun _ _ h => h) (fun _ h => h.elim) ?aF ?aB ?aS ?aL ?_; (case aR => first | exact bC HR1.out HB.out | exact Kd.C_below HR1.out HB.out); (case aB => exact (by repeat (first | (with_reducible first | exact bw HB.out | refine bset ?_ | apply bA | apply bN | apply bD) | exact HB.out))); (case aF => exact (fun _ _ => trivial)); (case aO => exact (bR HO279.out)); (case aS => exact (below_size (by repeat (first | (with_reducible first | exact bw HB.out | refine bset ?_ | apply bA | apply bN | apply bD) | exact HB.out)))); (case aL => have := LMc3.out; omega); intro v281 w7 ho hb hg hat; rw [← Ny280.out] at ho; have n0_ := Aside0.mk (blk_grown (bs BK276.out) hg (Kd.R_ne HO279.out BK276.out (by decide))); have n1_ := Aside0.mk (hb); have n2_ := Aside0.mk (ho); clear HO279; replace BK276 := n0_; replace HB := n1_; have HO282 := n2_; clear n0_ n1_ n2_; clear ho hb hg hat; obtain ⟨hcz8_0, hcz8_1, hcz8_2, hfz8_0, hfz8_1, hfz8_2⟩ := bz3 BK276.out)))
 go_loopg [6, 20] k (fun kq v6 v20 w' => ∃ (x6_1 : List (S43)) (x20_1 : Int), v20 = .int .i64 x20_1 ∧ Aside0 (impl_flat_headsWith.l0 kq x6_1 (l0_0.length : Int) x20_1 l0_0 l0_1 l0_2 = some (r1, r2)) ∧ Aside0 (kq ≤ k) ∧ Aside0 (Kd.R k43 43 w' w.heap.size (fun _ => True) v6 x6_1) ∧ Aside0 (w'.heap[gb276]? = some (.cells #[(.slice A0_0 l0_0.length c0_0), (.slice A0_1 l0_1.length c0_1), (.slice A0_2 l0_2.length c0_2)] 48 (0, 0))) ∧ Aside0 (Below w.heap.size w w'))
 case atStart => exact ⟨(y280), (0), (by first | rfl | (simp; done) | (simp [*]; done)), H', ⟨Nat.le_refl _⟩, ⟨bR HO282.out⟩, ⟨bs BK276.out⟩, ⟨by repeat (first | (with_reducible first | exact bw HB.out | refine bset ?_ | apply bA | apply bN | apply bD) | exact HB.out)⟩⟩
 case round =>
  clear H'
  try clear c1
  try clear p2
  try clear c3
  try clear c4
  try clear hcz8_0
  try clear hcz8_1
  try clear hcz8_2
  try clear hfz8_0
  try clear hfz8_1
  try clear hfz8_2
  obtain ⟨x6_1, x20_1, rfl, HA, HK1, HO_6, BK276, HB⟩ := hrel
  cases gk with
  | zero => exact absurd HA.out (by simp [impl_flat_headsWith.l0])
  | succ k1 =>
   have H := HA.out
   clear HA
   simp only [impl_flat_headsWith.l0] at H
   by_cases c9 : x20_1 < (l0_0.length : Int)
   ·rw [if_pos c9] at H
    have c9b0 : decide (x20_1 < (l0_0.length : Int)) = true := decide_eq_true c9
    clear c9
    replace H := Option.bind_eq_some_iff.mp H
    obtain ⟨t283, A100, H⟩ := H
    replace H : (if t283 ≥ 0 then (if x6_1.length < 8796093022208 then (impl_flat_headsWith.l0 k1 (x6_1 ++ [(⟨x20_1, t283⟩ : S43)]) (l0_0.length : Int) (wrap64 (x20_1 + 1)) l0_0 l0_1 l0_2) else (none)) else (impl_flat_headsWith.l0 k1 x6_1 (l0_0.length : Int) (wrap64 (x20_1 + 1)) l0_0 l0_1 l0_2)) = some (r1, r2) := H
    have A10 := Aside0.mk A100
    clear A100
    by_cases c11 : t283 ≥ 0
    rotate_left
    ·rw [if_neg c11] at H
     have c11b0 : decide (0 ≤ t283) = false := decide_eq_false c11
     clear c11
     have H' := Aside0.mk H
     clear H
     obtain ⟨hcz16_0, hcz16_1, hcz16_2, hfz16_0, hfz16_1, hfz16_2⟩ := bz3 BK276.out
     have go_ := True.intro
     repeat ((first | go_quiet (first | (go_at_call 48; (with_reducible refine (impl_flat_next.calls _ _ l0_0 _ _ l0_1 _ _ l0_2 x20_1 t283 _ ?side1 ?side2 ?side3 ?side4 ?side5 ?side6 A10.out).mono ?_); (case side1 => first | exact bC HR0_0.out HB.out | exact Kd.C_below HR0_0.out HB.out); (case side2 => exact HC0_0.out); (case side3 => first | exact bC HR0_1.out HB.out | exact Kd.C_below HR0_1.out HB.out); (case side4 => exact HC0_1.out); (case side5 => first | exact bC HR0_2.out HB.out | exact Kd.C_below HR0_2.out HB.out); (case side6 => exact HC0_2.out); rintro e w17 ⟨rfl, hb⟩; have n0_ := Aside0.mk (Kd.R_below (bR HO_6.out) hb); have n1_ := Aside0.mk (blk_below (bs BK276.out) hb); have n2_ := Aside0.mk (below_step (by repeat (first | (with_reducible first | exact bw HB.out | refine bset ?_ | apply bA | apply bN | apply bD) | exact HB.out)) hb); replace HO_6 := n0_; replace BK276 := n1_; replace HB := n2_; clear n0_ n1_ n2_; (try clear hb); (try clear hb2); (try clear hk); (try clear hi))) | clear go_); go_wp2_with (first | (go_at_call 48; (with_reducible refine (impl_flat_next.calls _ _ l0_0 _ _ l0_1 _ _ l0_2 x20_1 t283 _ ?side1 ?side2 ?side3 ?side4 ?side5 ?side6 A10.out).mono ?_); (case side1 => first | exact bC HR0_0.out HB.out | exact Kd.C_below HR0_0.out HB.out); (case side2 => exact HC0_0.out); (case side3 => first | exact bC HR0_1.out HB.out | exact Kd.C_below HR0_1.out HB.out); (case side4 => exact HC0_1.out); (case side5 => first | exact bC HR0_2.out HB.out | exact Kd.C_below HR0_2.out HB.out); (case side6 => exact HC0_2.out); rintro e w17 ⟨rfl, hb⟩; have n0_ := Aside0.mk (Kd.R_below (bR HO_6.out) hb); have n1_ := Aside0.mk (blk_below (bs BK276.out) hb); have n2_ := Aside0.mk (below_step (by repeat (first | (with_reducible first | exact bw HB.out | refine bset ?_ | apply bA | apply bN | apply bD) | exact HB.out)) hb); replace HO_6 := n0_; replace BK276 := n1_; replace HB := n2_; clear n0_ n1_ n2_; (try clear hb); (try clear hb2); (try clear hk); (try clear hi))))
     go_roundg k1
     case measure => have := HK1.out; omega
     case rel => exact ⟨(x6_1), (wrap64 (x20_1 + 1)), (by first | rfl | (simp; done) | (simp [*]; done)), H', ⟨by have := HK1.out; omega⟩, ⟨bR HO_6.out⟩, ⟨bs BK276.out⟩, ⟨by repeat (first | (with_reducible first | exact bw HB.out | refine bset ?_ | apply bA | apply bN | apply bD) | exact HB.out)⟩⟩
    rw [if_pos c11] at H
    have c11b0 : decide (0 ≤ t283) = true := decide_eq_true c11
    clear c11
    by_cases c12 : x6_1.length < 8796093022208
    rotate_left
    ·rw [if_neg c12] at H
     exact absurd H (by simp)
    rw [if_pos c12] at H
    have LMc12 := Aside0.mk c12
    clear c12
    obtain ⟨y284, hy284⟩ : ∃ y_ : List (S43), y_ = (x6_1 ++ [(⟨x20_1, t283⟩ : S43)]) := ⟨_, rfl⟩
    replace H : (impl_flat_headsWith.l0 k1 y284 (l0_0.length : Int) (wrap64 (x20_1 + 1)) l0_0 l0_1 l0_2) = some (r1, r2) := by first | (rw [hy284]; with_reducible exact H) | (have H2_ := (Option.bind_some _ _).symm.trans H; rw [hy284]; with_reducible exact H2_) | (have H2_ := (Option.bind_some _ _).symm.trans H; with_reducible exact H2_) | with_reducible exact H | (rw [hy284]; exact H) | exact H
    have Ny284 := Aside0.mk hy284
    clear hy284
    have H' := Aside0.mk H
    clear H
    obtain ⟨hcz13_0, hcz13_1, hcz13_2, hfz13_0, hfz13_1, hfz13_2⟩ := bz3 BK276.out
    have go_ := True.intro
    repeat ((first | go_quiet (first | (go_at_call 48; (with_reducible refine (impl_flat_next.calls _ _ l0_0 _ _ l0_1 _ _ l0_2 x20_1 t283 _ ?side1 ?side2 ?side3 ?side4 ?side5 ?side6 A10.out).mono ?_); (case side1 => first | exact bC HR0_0.out HB.out | exact Kd.C_below HR0_0.out HB.out); (case side2 => exact HC0_0.out); (case side3 => first | exact bC HR0_1.out HB.out | exact Kd.C_below HR0_1.out HB.out); (case side4 => exact HC0_1.out); (case side5 => first | exact bC HR0_2.out HB.out | exact Kd.C_below HR0_2.out HB.out); (case side6 => exact HC0_2.out); rintro e w14 ⟨rfl, hb⟩; have n0_ := Aside0.mk (Kd.R_below (bR HO_6.out) hb); have n1_ := Aside0.mk (blk_below (bs BK276.out) hb); have n2_ := Aside0.mk (below_step (by repeat (first | (with_reducible first | exact bw HB.out | refine bset ?_ | apply bA | apply bN | apply bD) | exact HB.out)) hb); replace HO_6 := n0_; replace BK276 := n1_; replace HB := n2_; clear n0_ n1_ n2_; (try clear hb); (try clear hb2); (try clear hk); (try clear hi)) | ((with_reducible refine gate_builtin (b := .append) (xs := #[.tmp 28, .tmp 32]) rfl ?_); at_builtin; refine Kd.R_append k43 (w0 := w) w.heap.size rfl (.tmp 28) (.tmp 32) 25 43 (.agg #[(.int .i64 0), (.int .i64 0)]) 16 rfl Try.underlying25 info43 rfl (by decide) (by omega) u6 x6_1 (⟨x20_1, t283⟩ : S43) [.int .i64 x20_1, .int .i64 t283] (fun _ => True) (fun _ => False) rfl rfl ?aP (fun _ hk => hk.elim) ?aF ?aO ?aB ?aS ?aL ?_; (case aP => exact k43_mkM _ _ _ (⟨x20_1, t283⟩ : S43)); (case aB => exact (by repeat (first | (with_reducible first | exact bw HB.out | refine bset ?_ | apply bA | apply bN | apply bD) | exact HB.out))); (case aF => exact (fun _ _ => trivial)); (case aO => exact (bR HO_6.out)); (case aS => exact (below_size (by repeat (first | (with_reducible first | exact bw HB.out | refine bset ?_ | apply bA | apply bN | apply bD) | exact HB.out)))); (case aL => have := LMc12.out; omega); intro v285 w15 ho hb hg hat; rw [← Ny284.out] at ho; have n0_ := Aside0.mk (blk_grown (bs BK276.out) hg (Kd.R_ne HO_6.out BK276.out (by decide))); have n1_ := Aside0.mk (hb); have n2_ := Aside0.mk (ho); clear HO_6; replace BK276 := n0_; replace HB := n1_; have HO286 := n2_; clear n0_ n1_ n2_; clear ho hb hg hat)) | clear go_); go_wp2_with (first | (go_at_call 48; (with_reducible refine (impl_flat_next.calls _ _ l0_0 _ _ l0_1 _ _ l0_2 x20_1 t283 _ ?side1 ?side2 ?side3 ?side4 ?side5 ?side6 A10.out).mono ?_); (case side1 => first | exact bC HR0_0.out HB.out | exact Kd.C_below HR0_0.out HB.out); (case side2 => exact HC0_0.out); (case side3 => first | exact bC HR0_1.out HB.out | exact Kd.C_below HR0_1.out HB.out); (case side4 => exact HC0_1.out); (case side5 => first | exact bC HR0_2.out HB.out | exact Kd.C_below HR0_2.out HB.out); (case side6 => exact HC0_2.out); rintro e w14 ⟨rfl, hb⟩; have n0_ := Aside0.mk (Kd.R_below (bR HO_6.out) hb); have n1_ := Aside0.mk (blk_below (bs BK276.out) hb); have n2_ := Aside0.mk (below_step (by repeat (first | (with_reducible first | exact bw HB.out | refine bset ?_ | apply bA | apply bN | apply bD) | exact HB.out)) hb); replace HO_6 := n0_; replace BK276 := n1_; replace HB := n2_; clear n0_ n1_ n2_; (try clear hb); (try clear hb2); (try clear hk); (try clear hi)) | ((with_reducible refine gate_builtin (b := .append) (xs := #[.tmp 28, .tmp 32]) rfl ?_); at_builtin; refine Kd.R_append k43 (w0 := w) w.heap.size rfl (.tmp 28) (.tmp 32) 25 43 (.agg #[(.int .i64 0), (.int .i64 0)]) 16 rfl Try.underlying25 info43 rfl (by decide) (by omega) u6 x6_1 (⟨x20_1, t283⟩ : S43) [.int .i64 x20_1, .int .i64 t283] (fun _ => True) (fun _ => False) rfl rfl ?aP (fun _ hk => hk.elim) ?aF ?aO ?aB ?aS ?aL ?_; (case aP => exact k43_mkM _ _ _ (⟨x20_1, t283⟩ : S43)); (case aB => exact (by repeat (first | (with_reducible first | exact bw HB.out | refine bset ?_ | apply bA | apply bN | apply bD) | exact HB.out))); (case aF => exact (fun _ _ => trivial)); (case aO => exact (bR HO_6.out)); (case aS => exact (below_size (by repeat (first | (with_reducible first | exact bw HB.out | refine bset ?_ | apply bA | apply bN | apply bD) | exact HB.out)))); (case aL => have := LMc12.out; omega); intro v285 w15 ho hb hg hat; rw [← Ny284.out] at ho; have n0_ := Aside0.mk (blk_grown (bs BK276.out) hg (Kd.R_ne HO_6.out BK276.out (by decide))); have n1_ := Aside0.mk (hb); have n2_ := Aside0.mk (ho); clear HO_6; replace BK276 := n0_; replace HB := n1_; have HO286 := n2_; clear n0_ n1_ n2_; clear ho hb hg hat)))
    go_roundg k1
    case measure => have := HK1.out; omega
    case rel => exact ⟨(y284), (wrap64 (x20_1 + 1)), (by first | rfl | (simp; done) | (simp [*]; done)), H', ⟨by have := HK1.out; omega⟩, ⟨bR HO286.out⟩, ⟨bs BK276.out⟩, ⟨by repeat (first | (with_reducible first | exact bw HB.out | refine bset ?_ | apply bA | apply bN | apply bD) | exact HB.out)⟩⟩
   rw [if_neg c9] at H
   have c9b0 : decide (x20_1 < (l0_0.length : Int)) = false := decide_eq_false c9
   clear c9
   by_cases c18 : 0 ≤ (l0_0.length : Int)
   rotate_left
   ·rw [if_neg c18] at H
    exact absurd H (by simp)
   rw [if_pos c18] at H
   have c18b0 := eq_true c18
   have c18b1 : decide (0 ≤ (l0_0.length : Int)) = true := decide_eq_true c18
   clear c18
   by_cases c19 : ((l0_0.length : Int) : Int).toNat ≤ 35184372088832
   rotate_left
   ·rw [if_neg c19] at H
    exact absurd H (by simp)
   rw [if_pos c19] at H
   have c19b0 := eq_true c19
   have c19b1 : decide (((l0_0.length : Int) : Int).toNat ≤ 35184372088832) = true := decide_eq_true c19
   clear c19
   obtain ⟨y287, hy287⟩ : ∃ y_ : List Int, y_ = (List.replicate ((l0_0.length : Int) : Int).toNat 0) := ⟨_, rfl⟩
   replace H : (impl_flat_headsWith.l1 k1 x6_1 y287 (wrap64 ((l0_0.length : Int) + 1)) 0 l0_0 l0_1 l0_2) = some (r1, r2) := by first | (rw [hy287]; with_reducible exact H) | (have H2_ := (Option.bind_some _ _).symm.trans H; rw [hy287]; with_reducible exact H2_) | (have H2_ := (Option.bind_some _ _).symm.trans H; with_reducible exact H2_) | with_reducible exact H | (rw [hy287]; exact H) | exact H
   have Ny287 := Aside0.mk hy287
   clear hy287
   have H' := Aside0.mk H
   clear H
   obtain ⟨hcz20_0, hcz20_1, hcz20_2, hfz20_0, hfz20_1, hfz20_2⟩ := bz3 BK276.out
   have go_ := True.intro
   repeat ((first | go_quiet (first | ((with_reducible refine gate_dst (N := 38) rfl ?_); refine Kd.R_make (Kd.int .i64) _ 3 rfl (N := 38) rfl 46 _ _ rfl (l0_0.length : Int) rfl rfl Try.underlying46 (.int .i64 0) 8 info3 rfl (by decide) (by omega) 0 (ok := fun _ => True) (okp := fun _ => True) rfl (fun _ hk => hk) trivial (of_decide_eq_true (by first | (with_reducible assumption) | assumption)) (Nat.le_trans (Nat.mul_le_mul_right _ (of_decide_eq_true (by first | (with_reducible assumption) | assumption) : (l0_0.length : Int).toNat ≤ 35184372088832)) (by omega)) (Below.refl _ _) (Nat.le_refl _) ?_; intro v288 w21 ho22 hb hg_ hnew_; clear hg_ hnew_; (first | rw [← Ny287.out] at ho22 | (simp only [Int.reduceToNat] at ho22; rw [← Ny287.out] at ho22)); have n0_ := Aside0.mk (Kd.R_below (bR HO_6.out) hb); have n1_ := Aside0.mk (Kd.R_lower ho22 (below_size (by repeat (first | (with_reducible first | exact bw HB.out | refine bset ?_ | apply bA | apply bN | apply bD) | exact HB.out)))); have n2_ := Aside0.mk (blk_below (bs BK276.out) hb); have n3_ := Aside0.mk (below_step (by repeat (first | (with_reducible first | exact bw HB.out | refine bset ?_ | apply bA | apply bN | apply bD) | exact HB.out)) hb); replace HO_6 := n0_; have HO289 := n1_; replace BK276 := n2_; replace HB := n3_; clear n0_ n1_ n2_ n3_; clear hb ho22; obtain ⟨hcz23_0, hcz23_1, hcz23_2, hfz23_0, hfz23_1, hfz23_2⟩ := bz3 BK276.out)) | clear go_); go_wp2_with (first | ((with_reducible refine gate_dst (N := 38) rfl ?_); refine Kd.R_make (Kd.int .i64) _ 3 rfl (N := 38) rfl 46 _ _ rfl (l0_0.length : Int) rfl rfl Try.underlying46 (.int .i64 0) 8 info3 rfl (by decide) (by omega) 0 (ok := fun _ => True) (okp := fun _ => True) rfl (fun _ hk => hk) trivial (of_decide_eq_true (by first | (with_reducible assumption) | assumption)) (Nat.le_trans (Nat.mul_le_mul_right _ (of_decide_eq_true (by first | (with_reducible assumption) | assumption) : (l0_0.length : Int).toNat ≤ 35184372088832)) (by omega)) (Below.refl _ _) (Nat.le_refl _) ?_; intro v288 w21 ho22 hb hg_ hnew_; clear hg_ hnew_; (first | rw [← Ny287.out] at ho22 | (simp only [Int.reduceToNat] at ho22; rw [← Ny287.out] at ho22)); have n0_ := Aside0.mk (Kd.R_below (bR HO_6.out) hb); have n1_ := Aside0.mk (Kd.R_lower ho22 (below_size (by repeat (first | (with_reducible first | exact bw HB.out | refine bset ?_ | apply bA | apply bN | apply bD) | exact HB.out)))); have n2_ := Aside0.mk (blk_below (bs BK276.out) hb); have n3_ := Aside0.mk (below_step (by repeat (first | (with_reducible first | exact bw HB.out | refine bset ?_ | apply bA | apply bN | apply bD) | exact HB.out)) hb); replace HO_6 := n0_; have HO289 := n1_; replace BK276 := n2_; replace HB := n3_; clear n0_ n1_ n2_ n3_; clear hb ho22; obtain ⟨hcz23_0, hcz23_1, hcz23_2, hfz23_0, hfz23_1, hfz23_2⟩ := bz3 BK276.out)))
   go_loopg [43] k1 (fun kq v43 w' => ∃ (x9_2 : List Int) (x43_2 : Int), v43 = .int .i64 x43_2 ∧ Aside0 (impl_flat_headsWith.l1 kq x6_1 x9_2 (wrap64 ((l0_0.length : Int) + 1)) x43_2 l0_0 l0_1 l0_2 = some (r1, r2)) ∧ Aside0 (kq ≤ k1) ∧ Aside0 (Kd.R k43 43 w' w.heap.size (fun _ => True) u6 x6_1) ∧ Aside0 (Kd.R (Kd.int .i64) 3 w' w.heap.size (fun _ => True) v288 x9_2) ∧ Aside0 (w'.heap[gb276]? = some (.cells #[(.slice A0_0 l0_0.length c0_0), (.slice A0_1 l0_1.length c0_1), (.slice A0_2 l0_2.length c0_2)] 48 (0, 0))) ∧ Aside0 (Below w.heap.size w w'))
   case atStart => exact ⟨(y287), (0), (by first | rfl | (simp; done) | (simp [*]; done)), H', ⟨Nat.le_refl _⟩, ⟨bR HO_6.out⟩, ⟨bR HO289.out⟩, ⟨bs BK276.out⟩, ⟨by repeat (first | (with_reducible first | exact bw HB.out | refine bset ?_ | apply bA | apply bN | apply bD) | exact HB.out)⟩⟩
   case round =>
    clear H'
    try clear c1
    try clear p2
    try clear c3
    try clear c4
    try clear p6
    try clear c9
    try clear c9b0
    try clear c11
    try clear c11b0
    try clear c12
    try clear c18
    try clear c18b0
    try clear c18b1
    try clear c19
    try clear c19b0
    try clear c19b1
    try clear hcz13_0
    try clear hcz13_1
    try clear hcz13_2
    try clear hcz16_0
    try clear hcz16_1
    try clear hcz16_2
    try clear hcz20_0
    try clear hcz20_1
    try clear hcz20_2
    try clear hcz23_0
    try clear hcz23_1
    try clear hcz23_2
    try clear hcz8_0
    try clear hcz8_1
    try clear hcz8_2
    try clear hfz13_0
    try clear hfz13_1
    try clear hfz13_2
    try clear hfz16_0
    try clear hfz16_1
    try clear hfz16_2
    try clear hfz20_0
    try clear hfz20_1
    try clear hfz20_2
    try clear hfz23_0
    try clear hfz23_1
    try clear hfz23_2
    try clear hfz8_0
    try clear hfz8_1
    try clear hfz8_2
    try clear p2
    obtain ⟨x9_2, x43_2, rfl, HA, HK2, HO_6, HO_9, BK276, HB⟩ := hrel
    cases gk with
    | zero => exact absurd HA.out (by simp [impl_flat_headsWith.l1])
    | succ k2 =>
     have H := HA.out
     clear HA
     simp only [impl_flat_headsWith.l1] at H
     by_cases c24 : x43_2 < (wrap64 ((l0_0.length : Int) + 1))
     rotate_left
     ·rw [if_neg c24] at H
      have c24b0 : decide (x43_2 < (wrap64 ((l0_0.length : Int) + 1))) = false := decide_eq_false c24
      clear c24
      simp only [Option.some.injEq, Prod.mk.injEq] at H
      obtain ⟨rfl, rfl⟩ := H
      go_wp2
      repeat (go_quiet (fail); try go_wp2)
      go_ret2
      exact ⟨_, by first | rfl | (simp [errW_none, errW_some] <;> rfl) | (simp [*, errW_none, errW_some] <;> rfl), by first | exact Kd.R_nil _ _ _ _ _ | exact Kd.N_nil _ _ _ _ _ | exact Kd.V_nil _ _ _ _ _ | exact Kd.Q_nil _ _ _ _ _ | exact Kd.S_nil _ _ _ _ _, by repeat (first | (with_reducible first | exact bw HB.out | refine bset ?_ | apply bA | apply bN | apply bD) | exact HB.out)⟩
     rw [if_pos c24] at H
     have c24b0 : decide (x43_2 < (wrap64 ((l0_0.length : Int) + 1))) = true := decide_eq_true c24
     clear c24
     have H' := Aside0.mk H
     clear H
     obtain ⟨Ao25, co25, eo25⟩ := Kd.R_slice HO_6.out
     subst eo25
     go_wp2
     repeat (go_quiet (fail); try go_wp2)
     go_loopg [10, 47] k2 (fun kq v10 v47 w' => ∃ (x9_3 : List Int) (x10_3 : Bool) (x47_3 : Int), v10 = .bool x10_3 ∧ v47 = .int .i64 x47_3 ∧ Aside0 (impl_flat_headsWith.l2 kq x6_1 x9_3 x10_3 (wrap64 ((l0_0.length : Int) + 1)) x43_2 x6_1 (x6_1.length : Int) x47_3 l0_0 l0_1 l0_2 = some (r1, r2)) ∧ Aside0 (kq ≤ k2) ∧ Aside0 (Kd.R k43 43 w' w.heap.size (fun _ => True) (.slice Ao25 x6_1.length co25) x6_1) ∧ Aside0 (Kd.R (Kd.int .i64) 3 w' w.heap.size (fun _ => True) v288 x9_3) ∧ Aside0 (Kd.R k43 43 w' w.heap.size (fun _ => True) (.slice Ao25 x6_1.length co25) x6_1) ∧ Aside0 (w'.heap[gb276]? = some (.cells #[(.slice A0_0 l0_0.length c0_0), (.slice A0_1 l0_1.length c0_1), (.slice A0_2 l0_2.length c0_2)] 48 (0, 0))) ∧ Aside0 (Below w.heap.size w w'))
     case atStart => exact ⟨(x9_2), (false), (0), (by first | rfl | (simp; done) | (simp [*]; done)), (by first | rfl | (simp; done) | (simp [*]; done)), H', ⟨Nat.le_refl _⟩, ⟨bR HO_6.out⟩, ⟨bR HO_9.out⟩, ⟨bR HO_6.out⟩, ⟨bs BK276.out⟩, ⟨by repeat (first | (with_reducible first | exact bw HB.out | refine bset ?_ | apply bA | apply bN | apply bD) | exact HB.out)⟩⟩
     case round =>
      clear H'
      try clear c1
      try clear c2
      try clear p2
      try clear c3
      try clear c4
      try clear p6
      try clear c9
      try clear c9b0
      try clear c11
      try clear c11b0
      try clear c12
      try clear c18
      try clear c18b0
      try clear c18b1
      try clear c19
      try clear c19b0
      try clear c19b1
      try clear c24
      try clear c24b0
      try clear hcz13_0
      try clear hcz13_1
      try clear hcz13_2
      try clear hcz16_0
      try clear hcz16_1
      try clear hcz16_2
      try clear hcz20_0
      try clear hcz20_1
      try clear hcz20_2
      try clear hcz23_0
      try clear hcz23_1
      try clear hcz23_2
      try clear hcz8_0
      try clear hcz8_1
      try clear hcz8_2
      try clear hfz13_0
      try clear hfz13_1
      try clear hfz13_2
      try clear hfz16_0
      try clear hfz16_1
      try clear hfz16_2
      try clear hfz20_0
      try clear hfz20_1
      try clear hfz20_2
      try clear hfz23_0
      try clear hfz23_1
      try clear hfz23_2
      try clear hfz8_0
      try clear hfz8_1
      try clear hfz8_2
      try clear p2
      try clear p6
      obtain ⟨x9_3, x10_3, x47_3, rfl, rfl, HA, HK3, HO_6, HO_9, HO_45, BK276, HB⟩ := hrel
      cases gk with
      | zero => exact absurd HA.out (by simp [impl_flat_headsWith.l2])
      | succ k3 =>
       have H := HA.out
       clear HA
       simp only [impl_flat_headsWith.l2] at H
       by_cases c26 : x47_3 < (x6_1.length : Int)
       rotate_left
       ·rw [if_neg c26] at H
        have c26b0 : decide (x47_3 < (x6_1.length : Int)) = false := decide_eq_false c26
        clear c26
        by_cases c50 : x10_3 = true
        rotate_left
        ·replace c50 := Bool.eq_false_iff.mpr c50
         subst c50
         have H1 : (some (x9_3, true)) = some (r1, r2) := by rw [if_neg (show ¬ (false = true) by decide)] at H; exact H
         clear H
         have H := H1
         clear H1
         simp only [Option.some.injEq, Prod.mk.injEq] at H
         obtain ⟨rfl, rfl⟩ := H
         go_wp2
         repeat (go_quiet (fail); try go_wp2)
         go_ret2
         exact ⟨_, by first | rfl | (simp [errW_none, errW_some] <;> rfl) | (simp [*, errW_none, errW_some] <;> rfl), by (with_reducible repeat (first | apply Kd.R_alloc | apply Kd.R_drewN | apply Kd.R_drew)); exact HO_9.out, by repeat (first | (with_reducible first | exact bw HB.out | refine bset ?_ | apply bA | apply bN | apply bD) | exact HB.out)⟩
        subst c50
        have H1 : (impl_flat_headsWith.l1 k3 x6_1 x9_3 (wrap64 ((l0_0.length : Int) + 1)) (wrap64 (x43_2 + 1)) l0_0 l0_1 l0_2) = some (r1, r2) := by rw [if_pos rfl] at H; exact H
        clear H
        have H := H1
        clear H1
        have H' := Aside0.mk H
        clear H
        go_wp2
        repeat (go_quiet (fail); try go_wp2)
        go_roundg k3
        case measure => have := HK1.out; have := HK2.out; have := HK3.out; omega
        case rel => exact ⟨(x9_3), (wrap64 (x43_2 + 1)), (by first | rfl | (simp; done) | (simp [*]; done)), H', ⟨by have := HK1.out; have := HK2.out; have := HK3.out; omega⟩, ⟨bR HO_6.out⟩, ⟨bR HO_9.out⟩, ⟨bs BK276.out⟩, ⟨by repeat (first | (with_reducible first | exact bw HB.out | refine bset ?_ | apply bA | apply bN | apply bD) | exact HB.out)⟩⟩
       rw [if_pos c26] at H
       have c26b0 : decide (x47_3 < (x6_1.length : Int)) = true := decide_eq_true c26
       clear c26
       by_cases c27 : 0 ≤ x47_3
       rotate_left
       ·rw [if_neg c27] at H
        exact absurd H (by simp)
       rw [if_pos c27] at H
       have c27b0 : decide (0 ≤ x47_3) = true := decide_eq_true c27
       clear c27
       by_cases c28 : x47_3 < (x6_1.length : Int)
       rotate_left
       ·rw [if_neg c28] at H
        exact absurd H (by simp)
       rw [if_pos c28] at H
       have c28b0 : decide (x47_3 < (x6_1.length : Int)) = true := decide_eq_true c28
       clear c28
       by_cases c29 : 0 ≤ ((rd_T43 x6_1 x47_3).f0)
       rotate_left
       ·rw [if_neg c29] at H
        exact absurd H (by simp)
       rw [if_pos c29] at H
       have c29b0 : decide (0 ≤ ((rd_T43 x6_1 x47_3).f0)) = true := decide_eq_true c29
       clear c29
       by_cases c30 : ((rd_T43 x6_1 x47_3).f0) < (x9_3.length : Int)
       rotate_left
       ·rw [if_neg c30] at H
        exact absurd H (by simp)
       rw [if_pos c30] at H
       have c30b0 : decide (((rd_T43 x6_1 x47_3).f0) < (x9_3.length : Int)) = true := decide_eq_true c30
       clear c30
       by_cases c31 : ((rd_T43 x6_1 x47_3).f0) < (l0_0.length : Int)
       rotate_left
       ·rw [if_neg c31] at H
        exact absurd H (by simp)
       rw [if_pos c31] at H
       have c31b0 : decide (((rd_T43 x6_1 x47_3).f0) < (l0_0.length : Int)) = true := decide_eq_true c31
       clear c31
       by_cases c32 : 0 ≤ ((rd_T43 x6_1 x47_3).f1)
       rotate_left
       ·rw [if_neg c32] at H
        exact absurd H (by simp)
       rw [if_pos c32] at H
       have c32b0 : decide (0 ≤ ((rd_T43 x6_1 x47_3).f1)) = true := decide_eq_true c32
       clear c32
       by_cases c33 : ((rd_T43 x6_1 x47_3).f1) < (x9_3.length : Int)
       rotate_left
       ·rw [if_neg c33] at H
        exact absurd H (by simp)
       rw [if_pos c33] at H
       have c33b0 : decide (((rd_T43 x6_1 x47_3).f1) < (x9_3.length : Int)) = true := decide_eq_true c33
       clear c33
       by_cases c34 : (wrap64 ((rd x9_3 ((rd_T43 x6_1 x47_3).f0)) + ((rd_T62 l0_0 ((rd_T43 x6_1 x47_3).f0)).f1))) > (rd x9_3 ((rd_T43 x6_1 x47_3).f1))
       rotate_left
       ·rw [if_neg c34] at H
        have c34b0 : decide ((rd x9_3 ((rd_T43 x6_1 x47_3).f1)) < (wrap64 ((rd x9_3 ((rd_T43 x6_1 x47_3).f0)) + ((rd_T62 l0_0 ((rd_T43 x6_1 x47_3).f0)).f1)))) = false := decide_eq_false c34
        clear c34
        have H' := Aside0.mk H
        clear H
        have p290 : 0 ≤ (x47_3 : Int) := of_decide_eq_true (by first | (with_reducible assumption) | assumption)
        have q290 : x47_3 < (x6_1.length : Int) := of_decide_eq_true (by first | (with_reducible assumption) | assumption)
        obtain ⟨ad290, e290, hx290_0, hx290_1⟩ := at_T43 (Kd.R_reads' HO_45.out).2.2 x47_3 p290 q290
        cases e290
        replace p290 := eq_true p290
        replace q290 := eq_true q290
        have go_ := True.intro
        repeat ((first | go_quiet (first | ((with_reducible refine gate_dst (N := 12) rfl ?_); refine box_event ?hg (N := 12) ?hd (cs := #[.int .i64 0, .int .i64 0]) (t := 43) ?hr ?_; (case hd => rfl); (case hg => rfl); (case hr => first | (go_simp; done) | (go_simp; rfl)); intro gb291 hg w45 hbox hb; have n0_ := Aside0.mk (Kd.R_below (Kd.R_elderB (bR HO_6.out) gb291 (Nat.le_of_eq hg.symm)) hb); have n1_ := Aside0.mk (Kd.R_below (bR HO_9.out) hb); have n2_ := Aside0.mk (Kd.R_below (Kd.R_elderB (bR HO_45.out) gb291 (Nat.le_of_eq hg.symm)) hb); have n3_ := Aside0.mk (blk_below (bs BK276.out) hb); have n4_ := Aside0.mk (below_step (by repeat (first | (with_reducible first | exact bw HB.out | refine bset ?_ | apply bA | apply bN | apply bD) | exact HB.out)) hb); have n5_ := Aside0.mk (hbox); have n6_ := Aside0.mk ((by rw [hg]; exact (below_size (by repeat (first | (with_reducible first | exact bw HB.out | refine bset ?_ | apply bA | apply bN | apply bD) | exact HB.out))) : w.heap.size ≤ gb291)); have n7_ := Aside0.mk ((by rw [hg]; exact (below_size (by repeat (first | (with_reducible first | exact bw HB.out | refine bset ?_ | apply bA | apply bN | apply bD) | exact HB.out))) : w.heap.size ≤ gb291)); have n8_ := ne_ hg BK276.out; have n9_ := en_ hg BK276.out; replace HO_6 := n0_; replace HO_9 := n1_; replace HO_45 := n2_; replace BK276 := n3_; replace HB := n4_; have BK291 := n5_; have GW291 := n6_; have GE291 := n7_; have NB276_291 := n8_; have NB291_276 := n9_; clear n0_ n1_ n2_ n3_ n4_ n5_ n6_ n7_ n8_ n9_; clear hb hbox hg; have hnb46 := NB291_276.out; have hnc46 := NB276_291.out; obtain ⟨hcz47_0, hcz47_1, hfz47_0, hfz47_1⟩ := bz2 BK291.out; obtain ⟨Ao48, co48, eo48⟩ := Kd.R_slice HO_9.out; subst eo48; have p292 : 0 ≤ (((rd_T43 x6_1 x47_3).f0) : Int) := of_decide_eq_true (by first | (with_reducible assumption) | assumption); have q292 : ((rd_T43 x6_1 x47_3).f0) < (x9_3.length : Int) := of_decide_eq_true (by first | (with_reducible assumption) | assumption); obtain ⟨ad292, e292, hx292_0⟩ := Kd.at_int (Kd.R_reads' HO_9.out).2.2 ((rd_T43 x6_1 x47_3).f0) p292 q292; cases e292; have hn292_0 : ad292.block ≠ gb291 := Kd.own_blk (Kd.R_ne HO_9.out BK291.out (by decide)); have hn292_1 : ad292.block ≠ gb291 := Kd.own_blk (Kd.R_ne HO_9.out BK291.out (by decide)); replace hx292_0 := (cell_far (p := ⟨gb291, 0, none⟩) (by first | (rw [add_block]; exact hn292_0) | (show (Addr.add _ _).block ≠ _; rw [add_block]; exact hn292_0) | exact hn292_0) (.int .i64 ((rd_T43 x6_1 x47_3).f0))).trans hx292_0; replace hx292_0 := (cell_far (p := ⟨gb291, 1, none⟩) (by first | (rw [add_block]; exact hn292_1) | (show (Addr.add _ _).block ≠ _; rw [add_block]; exact hn292_1) | exact hn292_1) (.int .i64 ((rd_T43 x6_1 x47_3).f1))).trans hx292_0; (try have hy292_0 := fun (n_ : Nat) => (show ((((w45.drewN n_).setCell ⟨gb291, 0, none⟩ (.int .i64 ((rd_T43 x6_1 x47_3).f0))).setCell ⟨gb291, 1, none⟩ (.int .i64 ((rd_T43 x6_1 x47_3).f1)))).cell? _ = some _ from hx292_0)); clear hn292_0; clear hn292_1; replace p292 := eq_true p292; replace q292 := eq_true q292; obtain ⟨hcz49_0, hcz49_1, hcz49_2, hfz49_0, hfz49_1, hfz49_2⟩ := bz3 BK276.out; have p293 : 0 ≤ (((rd_T43 x6_1 x47_3).f0) : Int) := of_decide_eq_true (by first | (with_reducible assumption) | assumption); have q293 : ((rd_T43 x6_1 x47_3).f0) < (l0_0.length : Int) := of_decide_eq_true (by first | (with_reducible assumption) | assumption); obtain ⟨ad293, e293, hx293_0, hx293_1⟩ := at_T62 HR0_0.out ((rd_T43 x6_1 x47_3).f0) p293 q293; cases e293; have hn293_0 : ad293.block ≠ gb291 := Nat.ne_of_lt (Nat.lt_of_lt_of_le (by have := World.block_lt_of_cell? _ _ hx293_0; first | rwa [add_block] at this | exact this) GW291.out); have hn293_1 : ad293.block ≠ gb291 := Nat.ne_of_lt (Nat.lt_of_lt_of_le (by have := World.block_lt_of_cell? _ _ hx293_0; first | rwa [add_block] at this | exact this) GW291.out); replace hx293_0 := (HB.out.cell (World.block_lt_of_cell? w _ hx293_0)).trans hx293_0; replace hx293_1 := (HB.out.cell (World.block_lt_of_cell? w _ hx293_1)).trans hx293_1; replace hx293_0 := (cell_far (p := ⟨gb291, 0, none⟩) (by first | (rw [add_block]; exact hn293_0) | (show (Addr.add _ _).block ≠ _; rw [add_block]; exact hn293_0) | exact hn293_0) (.int .i64 ((rd_T43 x6_1 x47_3).f0))).trans hx293_0; replace hx293_1 := (cell_far (p := ⟨gb291, 0, none⟩) (by first | (rw [add_block]; exact hn293_0) | (show (Addr.add _ _).block ≠ _; rw [add_block]; exact hn293_0) | exact hn293_0) (.int .i64 ((rd_T43 x6_1 x47_3).f0))).trans hx293_1; replace hx293_0 := (cell_far (p := ⟨gb291, 1, none⟩) (by first | (rw [add_block]; exact hn293_1) | (show (Addr.add _ _).block ≠ _; rw [add_block]; exact hn293_1) | exact hn293_1) (.int .i64 ((rd_T43 x6_1 x47_3).f1))).trans hx293_0; replace hx293_1 := (cell_far (p := ⟨gb291, 1, none⟩) (by first | (rw [add_block]; exact hn293_1) | (show (Addr.add _ _).block ≠ _; rw [add_block]; exact hn293_1) | exact hn293_1) (.int .i64 ((rd_T43 x6_1 x47_3).f1))).trans hx293_1; (try have hy293_0 := fun (n_ : Nat) => (show ((((w45.drewN n_).setCell ⟨gb291, 0, none⟩ (.int .i64 ((rd_T43 x6_1 x47_3).f0))).setCell ⟨gb291, 1, none⟩ (.int .i64 ((rd_T43 x6_1 x47_3).f1)))).cell? _ = some _ from hx293_0)); (try have hy293_1 := fun (n_ : Nat) => (show ((((w45.drewN n_).setCell ⟨gb291, 0, none⟩ (.int .i64 ((rd_T43 x6_1 x47_3).f0))).setCell ⟨gb291, 1, none⟩ (.int .i64 ((rd_T43 x6_1 x47_3).f1)))).cell? _ = some _ from hx293_1)); clear hn293_0; clear hn293_1; replace p293 := eq_true p293; replace q293 := eq_true q293; have p294 : 0 ≤ (((rd_T43 x6_1 x47_3).f1) : Int) := of_decide_eq_true (by first | (with_reducible assumption) | assumption); have q294 : ((rd_T43 x6_1 x47_3).f1) < (x9_3.length : Int) := of_decide_eq_true (by first | (with_reducible assumption) | assumption); obtain ⟨ad294, e294, hx294_0⟩ := Kd.at_int (Kd.R_reads' HO_9.out).2.2 ((rd_T43 x6_1 x47_3).f1) p294 q294; obtain rfl : ad292 = ad294 := (by injection e294); have hn294_0 : ad292.block ≠ gb291 := Kd.own_blk (Kd.R_ne HO_9.out BK291.out (by decide)); have hn294_1 : ad292.block ≠ gb291 := Kd.own_blk (Kd.R_ne HO_9.out BK291.out (by decide)); replace hx294_0 := (cell_far (p := ⟨gb291, 0, none⟩) (by first | (rw [add_block]; exact hn294_0) | (show (Addr.add _ _).block ≠ _; rw [add_block]; exact hn294_0) | exact hn294_0) (.int .i64 ((rd_T43 x6_1 x47_3).f0))).trans hx294_0; replace hx294_0 := (cell_far (p := ⟨gb291, 1, none⟩) (by first | (rw [add_block]; exact hn294_1) | (show (Addr.add _ _).block ≠ _; rw [add_block]; exact hn294_1) | exact hn294_1) (.int .i64 ((rd_T43 x6_1 x47_3).f1))).trans hx294_0; (try have hy294_0 := fun (n_ : Nat) => (show ((((w45.drewN n_).setCell ⟨gb291, 0, none⟩ (.int .i64 ((rd_T43 x6_1 x47_3).f0))).setCell ⟨gb291, 1, none⟩ (.int .i64 ((rd_T43 x6_1 x47_3).f1)))).cell? _ = some _ from hx294_0)); clear hn294_0; clear hn294_1; replace p294 := eq_true p294; replace q294 := eq_true q294)) | clear go_); go_wp2_with (first | ((with_reducible refine gate_dst (N := 12) rfl ?_); refine box_event ?hg (N := 12) ?hd (cs := #[.int .i64 0, .int .i64 0]) (t := 43) ?hr ?_; (case hd => rfl); (case hg => rfl); (case hr => first | (go_simp; done) | (go_simp; rfl)); intro gb291 hg w45 hbox hb; have n0_ := Aside0.mk (Kd.R_below (Kd.R_elderB (bR HO_6.out) gb291 (Nat.le_of_eq hg.symm)) hb); have n1_ := Aside0.mk (Kd.R_below (bR HO_9.out) hb); have n2_ := Aside0.mk (Kd.R_below (Kd.R_elderB (bR HO_45.out) gb291 (Nat.le_of_eq hg.symm)) hb); have n3_ := Aside0.mk (blk_below (bs BK276.out) hb); have n4_ := Aside0.mk (below_step (by repeat (first | (with_reducible first | exact bw HB.out | refine bset ?_ | apply bA | apply bN | apply bD) | exact HB.out)) hb); have n5_ := Aside0.mk (hbox); have n6_ := Aside0.mk ((by rw [hg]; exact (below_size (by repeat (first | (with_reducible first | exact bw HB.out | refine bset ?_ | apply bA | apply bN | apply bD) | exact HB.out))) : w.heap.size ≤ gb291)); have n7_ := Aside0.mk ((by rw [hg]; exact (below_size (by repeat (first | (with_reducible first | exact bw HB.out | refine bset ?_ | apply bA | apply bN | apply bD) | exact HB.out))) : w.heap.size ≤ gb291)); have n8_ := ne_ hg BK276.out; have n9_ := en_ hg BK276.out; replace HO_6 := n0_; replace HO_9 := n1_; replace HO_45 := n2_; replace BK276 := n3_; replace HB := n4_; have BK291 := n5_; have GW291 := n6_; have GE291 := n7_; have NB276_291 := n8_; have NB291_276 := n9_; clear n0_ n1_ n2_ n3_ n4_ n5_ n6_ n7_ n8_ n9_; clear hb hbox hg; have hnb46 := NB291_276.out; have hnc46 := NB276_291.out; obtain ⟨hcz47_0, hcz47_1, hfz47_0, hfz47_1⟩ := bz2 BK291.out; obtain ⟨Ao48, co48, eo48⟩ := Kd.R_slice HO_9.out; subst eo48; have p292 : 0 ≤ (((rd_T43 x6_1 x47_3).f0) : Int) := of_decide_eq_true (by first | (with_reducible assumption) | assumption); have q292 : ((rd_T43 x6_1 x47_3).f0) < (x9_3.length : Int) := of_decide_eq_true (by first | (with_reducible assumption) | assumption); obtain ⟨ad292, e292, hx292_0⟩ := Kd.at_int (Kd.R_reads' HO_9.out).2.2 ((rd_T43 x6_1 x47_3).f0) p292 q292; cases e292; have hn292_0 : ad292.block ≠ gb291 := Kd.own_blk (Kd.R_ne HO_9.out BK291.out (by decide)); have hn292_1 : ad292.block ≠ gb291 := Kd.own_blk (Kd.R_ne HO_9.out BK291.out (by decide)); replace hx292_0 := (cell_far (p := ⟨gb291, 0, none⟩) (by first | (rw [add_block]; exact hn292_0) | (show (Addr.add _ _).block ≠ _; rw [add_block]; exact hn292_0) | exact hn292_0) (.int .i64 ((rd_T43 x6_1 x47_3).f0))).trans hx292_0; replace hx292_0 := (cell_far (p := ⟨gb291, 1, none⟩) (by first | (rw [add_block]; exact hn292_1) | (show (Addr.add _ _).block ≠ _; rw [add_block]; exact hn292_1) | exact hn292_1) (.int .i64 ((rd_T43 x6_1 x47_3).f1))).trans hx292_0; (try have hy292_0 := fun (n_ : Nat) => (show ((((w45.drewN n_).setCell ⟨gb291, 0, none⟩ (.int .i64 ((rd_T43 x6_1 x47_3).f0))).setCell ⟨gb291, 1, none⟩ (.int .i64 ((rd_T43 x6_1 x47_3).f1)))).cell? _ = some _ from hx292_0)); clear hn292_0; clear hn292_1; replace p292 := eq_true p292; replace q292 := eq_true q292; obtain ⟨hcz49_0, hcz49_1, hcz49_2, hfz49_0, hfz49_1, hfz49_2⟩ := bz3 BK276.out; have p293 : 0 ≤ (((rd_T43 x6_1 x47_3).f0) : Int) := of_decide_eq_true (by first | (with_reducible assumption) | assumption); have q293 : ((rd_T43 x6_1 x47_3).f0) < (l0_0.length : Int) := of_decide_eq_true (by first | (with_reducible assumption) | assumption); obtain ⟨ad293, e293, hx293_0, hx293_1⟩ := at_T62 HR0_0.out ((rd_T43 x6_1 x47_3).f0) p293 q293; cases e293; have hn293_0 : ad293.block ≠ gb291 := Nat.ne_of_lt (Nat.lt_of_lt_of_le (by have := World.block_lt_of_cell? _ _ hx293_0; first | rwa [add_block] at this | exact this) GW291.out); have hn293_1 : ad293.block ≠ gb291 := Nat.ne_of_lt (Nat.lt_of_lt_of_le (by have := World.block_lt_of_cell? _ _ hx293_0; first | rwa [add_block] at this | exact this) GW291.out); replace hx293_0 := (HB.out.cell (World.block_lt_of_cell? w _ hx293_0)).trans hx293_0; replace hx293_1 := (HB.out.cell (World.block_lt_of_cell? w _ hx293_1)).trans hx293_1; replace hx293_0 := (cell_far (p := ⟨gb291, 0, none⟩) (by first | (rw [add_block]; exact hn293_0) | (show (Addr.add _ _).block ≠ _; rw [add_block]; exact hn293_0) | exact hn293_0) (.int .i64 ((rd_T43 x6_1 x47_3).f0))).trans hx293_0; replace hx293_1 := (cell_far (p := ⟨gb291, 0, none⟩) (by first | (rw [add_block]; exact hn293_0) | (show (Addr.add _ _).block ≠ _; rw [add_block]; exact hn293_0) | exact hn293_0) (.int .i64 ((rd_T43 x6_1 x47_3).f0))).trans hx293_1; replace hx293_0 := (cell_far (p := ⟨gb291, 1, none⟩) (by first | (rw [add_block]; exact hn293_1) | (show (Addr.add _ _).block ≠ _; rw [add_block]; exact hn293_1) | exact hn293_1) (.int .i64 ((rd_T43 x6_1 x47_3).f1))).trans hx293_0; replace hx293_1 := (cell_far (p := ⟨gb291, 1, none⟩) (by first | (rw [add_block]; exact hn293_1) | (show (Addr.add _ _).block ≠ _; rw [add_block]; exact hn293_1) | exact hn293_1) (.int .i64 ((rd_T43 x6_1 x47_3).f1))).trans hx293_1; (try have hy293_0 := fun (n_ : Nat) => (show ((((w45.drewN n_).setCell ⟨gb291, 0, none⟩ (.int .i64 ((rd_T43 x6_1 x47_3).f0))).setCell ⟨gb291, 1, none⟩ (.int .i64 ((rd_T43 x6_1 x47_3).f1)))).cell? _ = some _ from hx293_0)); (try have hy293_1 := fun (n_ : Nat) => (show ((((w45.drewN n_).setCell ⟨gb291, 0, none⟩ (.int .i64 ((rd_T43 x6_1 x47_3).f0))).setCell ⟨gb291, 1, none⟩ (.int .i64 ((rd_T43 x6_1 x47_3).f1)))).cell? _ = some _ from hx293_1)); clear hn293_0; clear hn293_1; replace p293 := eq_true p293; replace q293 := eq_true q293; have p294 : 0 ≤ (((rd_T43 x6_1 x47_3).f1) : Int) := of_decide_eq_true (by first | (with_reducible assumption) | assumption); have q294 : ((rd_T43 x6_1 x47_3).f1) < (x9_3.length : Int) := of_decide_eq_true (by first | (with_reducible assumption) | assumption); obtain ⟨ad294, e294, hx294_0⟩ := Kd.at_int (Kd.R_reads' HO_9.out).2.2 ((rd_T43 x6_1 x47_3).f1) p294 q294; obtain rfl : ad292 = ad294 := (by injection e294); have hn294_0 : ad292.block ≠ gb291 := Kd.own_blk (Kd.R_ne HO_9.out BK291.out (by decide)); have hn294_1 : ad292.block ≠ gb291 := Kd.own_blk (Kd.R_ne HO_9.out BK291.out (by decide)); replace hx294_0 := (cell_far (p := ⟨gb291, 0, none⟩) (by first | (rw [add_block]; exact hn294_0) | (show (Addr.add _ _).block ≠ _; rw [add_block]; exact hn294_0) | exact hn294_0) (.int .i64 ((rd_T43 x6_1 x47_3).f0))).trans hx294_0; replace hx294_0 := (cell_far (p := ⟨gb291, 1, none⟩) (by first | (rw [add_block]; exact hn294_1) | (show (Addr.add _ _).block ≠ _; rw [add_block]; exact hn294_1) | exact hn294_1) (.int .i64 ((rd_T43 x6_1 x47_3).f1))).trans hx294_0; (try have hy294_0 := fun (n_ : Nat) => (show ((((w45.drewN n_).setCell ⟨gb291, 0, none⟩ (.int .i64 ((rd_T43 x6_1 x47_3).f0))).setCell ⟨gb291, 1, none⟩ (.int .i64 ((rd_T43 x6_1 x47_3).f1)))).cell? _ = some _ from hx294_0)); clear hn294_0; clear hn294_1; replace p294 := eq_true p294; replace q294 := eq_true q294)))
        go_roundg k3
        case measure => have := HK1.out; have := HK2.out; have := HK3.out; omega
        case rel => exact ⟨(x9_3), (x10_3), (wrap64 (x47_3 + 1)), (by first | rfl | (simp; done) | (simp [*]; done)), (by first | rfl | (simp; done) | (simp [*]; done)), H', ⟨by have := HK1.out; have := HK2.out; have := HK3.out; omega⟩, ⟨by (with_reducible repeat (first | apply Kd.R_alloc | apply Kd.R_drewN | apply Kd.R_drew)); exact Kd.R_mono (Kd.R_far (p := ⟨gb291, 1, none⟩) (Kd.R_far (p := ⟨gb291, 0, none⟩) (Kd.R_mono HO_6.out (fun k_ hk => (⟨hk, hk.2⟩ : _ ∧ k_ ≠ gb291))) (fun _ hk => hk.2) (.int .i64 ((rd_T43 x6_1 x47_3).f0))) (fun _ hk => hk.2) (.int .i64 ((rd_T43 x6_1 x47_3).f1))) (fun _ hk => trivial)⟩, ⟨by (with_reducible repeat (first | apply Kd.R_alloc | apply Kd.R_drewN | apply Kd.R_drew)); exact Kd.R_mono (Kd.R_far (p := ⟨gb291, 1, none⟩) (Kd.R_far (p := ⟨gb291, 0, none⟩) (Kd.R_types HO_9.out BK291.out (by decide)) (fun _ hk => hk.2) (.int .i64 ((rd_T43 x6_1 x47_3).f0))) (fun _ hk => hk.2) (.int .i64 ((rd_T43 x6_1 x47_3).f1))) (fun _ hk => trivial)⟩, ⟨by (with_reducible repeat (first | apply Kd.R_alloc | apply Kd.R_drewN | apply Kd.R_drew)); exact Kd.R_mono (Kd.R_far (p := ⟨gb291, 1, none⟩) (Kd.R_far (p := ⟨gb291, 0, none⟩) (Kd.R_mono HO_45.out (fun k_ hk => (⟨hk, hk.2⟩ : _ ∧ k_ ≠ gb291))) (fun _ hk => hk.2) (.int .i64 ((rd_T43 x6_1 x47_3).f0))) (fun _ hk => hk.2) (.int .i64 ((rd_T43 x6_1 x47_3).f1))) (fun _ hk => trivial)⟩, ⟨by (with_reducible repeat (first | refine blk_drewN ?_ _ | refine blk_drew ?_ | refine blk_alloc ?_ _)); refine blk_far ?_ NB276_291.out _; (with_reducible repeat (first | refine blk_drewN ?_ _ | refine blk_drew ?_ | refine blk_alloc ?_ _)); refine blk_far ?_ NB276_291.out _; exact bs BK276.out⟩, ⟨by repeat (first | (with_reducible first | exact bw HB.out | refine bset ?_ | apply bA | apply bN | apply bD) | exact HB.out)⟩⟩
       rw [if_pos c34] at H
       have c34b0 : decide ((rd x9_3 ((rd_T43 x6_1 x47_3).f1)) < (wrap64 ((rd x9_3 ((rd_T43 x6_1 x47_3).f0)) + ((rd_T62 l0_0 ((rd_T43 x6_1 x47_3).f0)).f1)))) = true := decide_eq_true c34
       clear c34
       obtain ⟨y295, hy295⟩ : ∃ y_ : List Int, y_ = (x9_3.set (((rd_T43 x6_1 x47_3).f1) : Int).toNat (wrap64 ((rd x9_3 ((rd_T43 x6_1 x47_3).f0)) + ((rd_T62 l0_0 ((rd_T43 x6_1 x47_3).f0)).f1)))) := ⟨_, rfl⟩
       replace H : (impl_flat_headsWith.l2 k3 x6_1 y295 true (wrap64 ((l0_0.length : Int) + 1)) x43_2 x6_1 (x6_1.length : Int) (wrap64 (x47_3 + 1)) l0_0 l0_1 l0_2) = some (r1, r2) := by first | (rw [hy295]; with_reducible exact H) | (have H2_ := (Option.bind_some _ _).symm.trans H; rw [hy295]; with_reducible exact H2_) | (have H2_ := (Option.bind_some _ _).symm.trans H; with_reducible exact H2_) | with_reducible exact H | (rw [hy295]; exact H) | exact H
       have Ny295 := Aside0.mk hy295
       clear hy295
       have H' := Aside0.mk H
       clear H
       have p290 : 0 ≤ (x47_3 : Int) := of_decide_eq_true (by first | (with_reducible assumption) | assumption)
       have q290 : x47_3 < (x6_1.length : Int) := of_decide_eq_true (by first | (with_reducible assumption) | assumption)
       obtain ⟨ad290, e290, hx290_0, hx290_1⟩ := at_T43 (Kd.R_reads' HO_45.out).2.2 x47_3 p290 q290
       cases e290
       replace p290 := eq_true p290
       replace q290 := eq_true q290
       have go_ := True.intro
       repeat ((first | go_quiet (first | ((with_reducible refine gate_dst (N := 12) rfl ?_); refine box_event ?hg (N := 12) ?hd (cs := #[.int .i64 0, .int .i64 0]) (t := 43) ?hr ?_; (case hd => rfl); (case hg => rfl); (case hr => first | (go_simp; done) | (go_simp; rfl)); intro gb291 hg w36 hbox hb; have n0_ := Aside0.mk (Kd.R_below (Kd.R_elderB (bR HO_6.out) gb291 (Nat.le_of_eq hg.symm)) hb); have n1_ := Aside0.mk (Kd.R_below (bR HO_9.out) hb); have n2_ := Aside0.mk (Kd.R_below (Kd.R_elderB (bR HO_45.out) gb291 (Nat.le_of_eq hg.symm)) hb); have n3_ := Aside0.mk (blk_below (bs BK276.out) hb); have n4_ := Aside0.mk (below_step (by repeat (first | (with_reducible first | exact bw HB.out | refine bset ?_ | apply bA | apply bN | apply bD) | exact HB.out)) hb); have n5_ := Aside0.mk (hbox); have n6_ := Aside0.mk ((by rw [hg]; exact (below_size (by repeat (first | (with_reducible first | exact bw HB.out | refine bset ?_ | apply bA | apply bN | apply bD) | exact HB.out))) : w.heap.size ≤ gb291)); have n7_ := Aside0.mk ((by rw [hg]; exact (below_size (by repeat (first | (with_reducible first | exact bw HB.out | refine bset ?_ | apply bA | apply bN | apply bD) | exact HB.out))) : w.heap.size ≤ gb291)); have n8_ := ne_ hg BK276.out; have n9_ := en_ hg BK276.out; replace HO_6 := n0_; replace HO_9 := n1_; replace HO_45 := n2_; replace BK276 := n3_; replace HB := n4_; have BK291 := n5_; have GW291 := n6_; have GE291 := n7_; have NB276_291 := n8_; have NB291_276 := n9_; clear n0_ n1_ n2_ n3_ n4_ n5_ n6_ n7_ n8_ n9_; clear hb hbox hg; have hnb37 := NB291_276.out; have hnc37 := NB276_291.out; obtain ⟨hcz38_0, hcz38_1, hfz38_0, hfz38_1⟩ := bz2 BK291.out) | ((with_reducible refine gate_store (t := 43) (p := 12) rfl ?_); (try (rw [drewN_self w36]; generalize hq_ : World.drewN w36 _ = w36; have n0_ := Aside0.mk (Kd.R_at hq_ HO_6.out); have n1_ := Aside0.mk (Kd.R_at hq_ HO_9.out); have n2_ := Aside0.mk (Kd.R_at hq_ HO_45.out); have n3_ := Aside0.mk (blk_at hq_ BK276.out); have n4_ := Aside0.mk (blk_at hq_ BK291.out); have n5_ := Aside0.mk (below_at hq_ HB.out); (try replace hx290_0 := cell_at hq_ hx290_0); (try replace hx290_1 := cell_at hq_ hx290_1); (try replace hx35_0 := cell_at hq_ hx35_0); (try replace hf35_0 := frz_at hq_ hf35_0); (try replace hx292_0 := cell_at hq_ hx292_0); clear hq_ HO_6 HO_9 HO_45 BK276 BK291 HB; have HO_6 := n0_; have HO_9 := n1_; have HO_45 := n2_; have BK276 := n3_; have BK291 := n4_; have HB := n5_; clear n0_ n1_ n2_ n3_ n4_ n5_)); refine store_event (t := 43) (p := 12) (v := ?vo_w39) (w1 := ((w36.setCell ⟨gb291, 0, none⟩ (.int .i64 ((rd_T43 x6_1 x47_3).f0))).setCell ⟨gb291, 1, none⟩ (.int .i64 ((rd_T43 x6_1 x47_3).f1)))) ?hg ?ho ?hn ?hr ?_; (case ho => rfl); (case hg => rfl); (case hn => rfl); (case hr => first | (go_simp; done) | (go_simp; rfl)); intro w39 hw; have n0_ : Aside0 (Kd.R k43 43 w39 w.heap.size (fun k_ => k_ ≠ gb291) (.slice (some ad290) x6_1.length co25) x6_1) := ⟨(by rw [hw]; exact (by (with_reducible repeat (first | apply Kd.R_alloc | apply Kd.R_drewN | apply Kd.R_drew)); exact Kd.R_mono (Kd.R_far (p := ⟨gb291, 1, none⟩) (Kd.R_far (p := ⟨gb291, 0, none⟩) (Kd.R_mono HO_6.out (fun k_ hk => (⟨hk, hk.2⟩ : _ ∧ k_ ≠ gb291))) (fun _ hk => hk.2) (.int .i64 ((rd_T43 x6_1 x47_3).f0))) (fun _ hk => hk.2) (.int .i64 ((rd_T43 x6_1 x47_3).f1))) (fun _ hk => hk.1.2)))⟩; have n1_ : Aside0 (Kd.R (Kd.int .i64) 3 w39 w.heap.size (fun _ => True) v288 x9_3) := ⟨(by rw [hw]; exact (by (with_reducible repeat (first | apply Kd.R_alloc | apply Kd.R_drewN | apply Kd.R_drew)); exact Kd.R_mono (Kd.R_far (p := ⟨gb291, 1, none⟩) (Kd.R_far (p := ⟨gb291, 0, none⟩) (Kd.R_types HO_9.out BK291.out (by decide)) (fun _ hk => hk.2) (.int .i64 ((rd_T43 x6_1 x47_3).f0))) (fun _ hk => hk.2) (.int .i64 ((rd_T43 x6_1 x47_3).f1))) (fun _ hk => trivial)))⟩; have n2_ : Aside0 (Kd.R k43 43 w39 w.heap.size (fun k_ => k_ ≠ gb291) (.slice (some ad290) x6_1.length co25) x6_1) := ⟨(by rw [hw]; exact (by (with_reducible repeat (first | apply Kd.R_alloc | apply Kd.R_drewN | apply Kd.R_drew)); exact Kd.R_mono (Kd.R_far (p := ⟨gb291, 1, none⟩) (Kd.R_far (p := ⟨gb291, 0, none⟩) (Kd.R_mono HO_45.out (fun k_ hk => (⟨hk, hk.2⟩ : _ ∧ k_ ≠ gb291))) (fun _ hk => hk.2) (.int .i64 ((rd_T43 x6_1 x47_3).f0))) (fun _ hk => hk.2) (.int .i64 ((rd_T43 x6_1 x47_3).f1))) (fun _ hk => hk.1.2)))⟩; have n3_ : Aside0 (w39.heap[gb276]? = some (.cells #[.slice A0_0 l0_0.length c0_0, .slice A0_1 l0_1.length c0_1, .slice A0_2 l0_2.length c0_2] 48 (0, 0))) := ⟨(by rw [hw]; exact (by (with_reducible repeat (first | refine blk_drewN ?_ _ | refine blk_drew ?_ | refine blk_alloc ?_ _)); refine blk_far ?_ NB276_291.out _; (with_reducible repeat (first | refine blk_drewN ?_ _ | refine blk_drew ?_ | refine blk_alloc ?_ _)); refine blk_far ?_ NB276_291.out _; exact bs BK276.out))⟩; have n4_ : Aside0 (w39.heap[gb291]? = some (.cells #[.int .i64 ((rd_T43 x6_1 x47_3).f0), .int .i64 ((rd_T43 x6_1 x47_3).f1)] 43 (0, 0))) := ⟨(by rw [hw]; exact (by (with_reducible repeat (first | refine blk_drewN ?_ _ | refine blk_drew ?_ | refine blk_alloc ?_ _)); refine blk_put (cs := #[.int .i64 ((rd_T43 x6_1 x47_3).f0), .int .i64 0]) ?_ 1 _ rfl; (with_reducible repeat (first | refine blk_drewN ?_ _ | refine blk_drew ?_ | refine blk_alloc ?_ _)); refine blk_put (cs := #[.int .i64 0, .int .i64 0]) ?_ 0 _ rfl; exact bs BK291.out))⟩; have n5_ : Aside0 (Below w.heap.size w w39) := ⟨(by rw [hw]; exact (by repeat (first | (with_reducible first | exact bw HB.out | refine bset ?_ | apply bA | apply bN | apply bD) | exact HB.out)))⟩; clear hw; replace HO_6 := n0_; replace HO_9 := n1_; replace HO_45 := n2_; replace BK276 := n3_; replace BK291 := n4_; replace HB := n5_; clear n0_ n1_ n2_ n3_ n4_ n5_; obtain ⟨hcz40_0, hcz40_1, hfz40_0, hfz40_1⟩ := bz2 BK291.out; obtain ⟨Ao41, co41, eo41⟩ := Kd.R_slice HO_9.out; subst eo41; have p292 : 0 ≤ (((rd_T43 x6_1 x47_3).f0) : Int) := of_decide_eq_true (by first | (with_reducible assumption) | assumption); have q292 : ((rd_T43 x6_1 x47_3).f0) < (x9_3.length : Int) := of_decide_eq_true (by first | (with_reducible assumption) | assumption); obtain ⟨ad292, e292, hx292_0⟩ := Kd.at_int (Kd.R_reads' HO_9.out).2.2 ((rd_T43 x6_1 x47_3).f0) p292 q292; cases e292; replace p292 := eq_true p292; replace q292 := eq_true q292; obtain ⟨hcz42_0, hcz42_1, hcz42_2, hfz42_0, hfz42_1, hfz42_2⟩ := bz3 BK276.out; have p293 : 0 ≤ (((rd_T43 x6_1 x47_3).f0) : Int) := of_decide_eq_true (by first | (with_reducible assumption) | assumption); have q293 : ((rd_T43 x6_1 x47_3).f0) < (l0_0.length : Int) := of_decide_eq_true (by first | (with_reducible assumption) | assumption); obtain ⟨ad293, e293, hx293_0, hx293_1⟩ := at_T62 HR0_0.out ((rd_T43 x6_1 x47_3).f0) p293 q293; cases e293; replace hx293_0 := (HB.out.cell (World.block_lt_of_cell? w _ hx293_0)).trans hx293_0; replace hx293_1 := (HB.out.cell (World.block_lt_of_cell? w _ hx293_1)).trans hx293_1; replace p293 := eq_true p293; replace q293 := eq_true q293; have p294 : 0 ≤ (((rd_T43 x6_1 x47_3).f1) : Int) := of_decide_eq_true (by first | (with_reducible assumption) | assumption); have q294 : ((rd_T43 x6_1 x47_3).f1) < (x9_3.length : Int) := of_decide_eq_true (by first | (with_reducible assumption) | assumption); obtain ⟨ad294, e294, hx294_0⟩ := Kd.at_int (Kd.R_reads' HO_9.out).2.2 ((rd_T43 x6_1 x47_3).f1) p294 q294; obtain rfl : ad292 = ad294 := (by injection e294); replace p294 := eq_true p294; replace q294 := eq_true q294; have p35 : 0 ≤ (((rd_T43 x6_1 x47_3).f1) : Int) := of_decide_eq_true (by first | (with_reducible assumption) | assumption); have q35 : (((rd_T43 x6_1 x47_3).f1) : Int) < ((x9_3.length : Int) : Int) := of_decide_eq_true (by first | (with_reducible assumption) | assumption); obtain ⟨go35, co35, eo35, gb35, gl35, cl35, HG35⟩ := Kd.R_form HO_9.out (by omega); (first | cases eo35 | (injection eo35 with ea_ en_ ec_; (first | subst ea_ | (injection ea_ with ea_; subst ea_)); subst ec_; clear en_)); have GB35 := Aside0.mk gb35; have GG35 := Aside0.mk HG35; clear gb35 gl35 HG35; (first | simp only [add_plain] at hx292_0 | skip); (first | simp only [add_plain] at hx294_0 | skip); obtain ⟨hx35_0, hf35_0⟩ := Kd.R_celln 0 HO_9.out (((rd_T43 x6_1 x47_3).f1) : Int) p35 q35; replace p35 := eq_true p35; replace q35 := eq_true q35; obtain ⟨hy43_, hz43_⟩ := Kd.R_celln 0 HO_9.out (((rd_T43 x6_1 x47_3).f1) : Int) (of_decide_eq_true (by first | (with_reducible assumption) | assumption)) (of_decide_eq_true (by first | (with_reducible assumption) | assumption)); have HP43 := Kd.R_putg HO_9.out (((rd_T43 x6_1 x47_3).f1) : Int) (wrap64 ((rd x9_3 ((rd_T43 x6_1 x47_3).f0)) + ((rd_T62 l0_0 ((rd_T43 x6_1 x47_3).f0)).f1)))) | ((with_reducible refine gate_store (t := 3) (p := 75) rfl ?_); (try (rw [drewN_self w39]; generalize hq_ : World.drewN w39 _ = w39; have n0_ := Aside0.mk (Kd.R_at hq_ HO_6.out); have n1_ := Aside0.mk (Kd.R_at hq_ HO_9.out); have n2_ := Aside0.mk (Kd.R_at hq_ HO_45.out); have n3_ := Aside0.mk (blk_at hq_ BK276.out); have n4_ := Aside0.mk (blk_at hq_ BK291.out); have n5_ := Aside0.mk (below_at hq_ HB.out); (try replace hx290_0 := cell_at hq_ hx290_0); (try replace hx290_1 := cell_at hq_ hx290_1); (try replace hx35_0 := cell_at hq_ hx35_0); (try replace hf35_0 := frz_at hq_ hf35_0); (try replace hx292_0 := cell_at hq_ hx292_0); clear hq_ HO_6 HO_9 HO_45 BK276 BK291 HB; have HO_6 := n0_; have HO_9 := n1_; have HO_45 := n2_; have BK276 := n3_; have BK291 := n4_; have HB := n5_; clear n0_ n1_ n2_ n3_ n4_ n5_; (try (obtain ⟨hy43_, hz43_⟩ := Kd.R_celln 0 HO_9.out (((rd_T43 x6_1 x47_3).f1) : Int) (of_decide_eq_true (by first | (with_reducible assumption) | assumption)) (of_decide_eq_true (by first | (with_reducible assumption) | assumption)))); (try (have HP43 := Kd.R_putg HO_9.out (((rd_T43 x6_1 x47_3).f1) : Int) (wrap64 ((rd x9_3 ((rd_T43 x6_1 x47_3).f0)) + ((rd_T62 l0_0 ((rd_T43 x6_1 x47_3).f0)).f1))))))); refine store_event (t := 3) (p := 75) (v := ?vo_w44) (w1 := (w39.setCell ⟨go35, (((rd_T43 x6_1 x47_3).f1) : Int).toNat, none⟩ (.int .i64 (wrap64 ((rd x9_3 ((rd_T43 x6_1 x47_3).f0)) + ((rd_T62 l0_0 ((rd_T43 x6_1 x47_3).f0)).f1)))))) ?hg ?ho ?hn ?hr ?_; (case ho => rfl); (case hg => rfl); (case hn => rfl); (case hr => first | (go_simp; done) | (go_simp; rfl)); intro w44 hw; have hg : w39.grownBy w44 (some go35) := (by rw [hw]; exact HP43.2); have hp_ : Kd.R (Kd.int .i64) 3 w44 w.heap.size (fun _ => True) (.slice (some ⟨go35, 0, none⟩) x9_3.length co41) y295 := (by rw [hw, Ny295.out]; exact HP43.1); clear HP43; have n0_ := Aside0.mk (Kd.R_over' (v := (.slice (some ⟨go35, 0, none⟩) x9_3.length co41)) (bR HO_6.out) (Kd.R_typed HO_9.out) (by decide) hg); have n1_ := Aside0.mk (hp_); have n2_ := Aside0.mk (Kd.R_over' (v := (.slice (some ⟨go35, 0, none⟩) x9_3.length co41)) (bR HO_45.out) (Kd.R_typed HO_9.out) (by decide) hg); have n3_ := Aside0.mk (blk_grown (bs BK276.out) hg (Kd.R_ne HO_9.out BK276.out (by decide))); have n4_ := Aside0.mk (blk_grown (bs BK291.out) hg (Kd.R_ne HO_9.out BK291.out (by decide))); have n5_ := Aside0.mk ((by rw [hw]; exact below_set (HB.out) GB35.out : Below w.heap.size w w44)); replace HO_6 := n0_; replace HO_9 := n1_; replace HO_45 := n2_; replace BK276 := n3_; replace BK291 := n4_; replace HB := n5_; clear n0_ n1_ n2_ n3_ n4_ n5_; clear hg hw hp_)) | clear go_); go_wp2_with (first | ((with_reducible refine gate_dst (N := 12) rfl ?_); refine box_event ?hg (N := 12) ?hd (cs := #[.int .i64 0, .int .i64 0]) (t := 43) ?hr ?_; (case hd => rfl); (case hg => rfl); (case hr => first | (go_simp; done) | (go_simp; rfl)); intro gb291 hg w36 hbox hb; have n0_ := Aside0.mk (Kd.R_below (Kd.R_elderB (bR HO_6.out) gb291 (Nat.le_of_eq hg.symm)) hb); have n1_ := Aside0.mk (Kd.R_below (bR HO_9.out) hb); have n2_ := Aside0.mk (Kd.R_below (Kd.R_elderB (bR HO_45.out) gb291 (Nat.le_of_eq hg.symm)) hb); have n3_ := Aside0.mk (blk_below (bs BK276.out) hb); have n4_ := Aside0.mk (below_step (by repeat (first | (with_reducible first | exact bw HB.out | refine bset ?_ | apply bA | apply bN | apply bD) | exact HB.out)) hb); have n5_ := Aside0.mk (hbox); have n6_ := Aside0.mk ((by rw [hg]; exact (below_size (by repeat (first | (with_reducible first | exact bw HB.out | refine bset ?_ | apply bA | apply bN | apply bD) | exact HB.out))) : w.heap.size ≤ gb291)); have n7_ := Aside0.mk ((by rw [hg]; exact (below_size (by repeat (first | (with_reducible first | exact bw HB.out | refine bset ?_ | apply bA | apply bN | apply bD) | exact HB.out))) : w.heap.size ≤ gb291)); have n8_ := ne_ hg BK276.out; have n9_ := en_ hg BK276.out; replace HO_6 := n0_; replace HO_9 := n1_; replace HO_45 := n2_; replace BK276 := n3_; replace HB := n4_; have BK291 := n5_; have GW291 := n6_; have GE291 := n7_; have NB276_291 := n8_; have NB291_276 := n9_; clear n0_ n1_ n2_ n3_ n4_ n5_ n6_ n7_ n8_ n9_; clear hb hbox hg; have hnb37 := NB291_276.out; have hnc37 := NB276_291.out; obtain ⟨hcz38_0, hcz38_1, hfz38_0, hfz38_1⟩ := bz2 BK291.out) | ((with_reducible refine gate_store (t := 43) (p := 12) rfl ?_); (try (rw [drewN_self w36]; generalize hq_ : World.drewN w36 _ = w36; have n0_ := Aside0.mk (Kd.R_at hq_ HO_6.out); have n1_ := Aside0.mk (Kd.R_at hq_ HO_9.out); have n2_ := Aside0.mk (Kd.R_at hq_ HO_45.out); have n3_ := Aside0.mk (blk_at hq_ BK276.out); have n4_ := Aside0.mk (blk_at hq_ BK291.out); have n5_ := Aside0.mk (below_at hq_ HB.out); (try replace hx290_0 := cell_at hq_ hx290_0); (try replace hx290_1 := cell_at hq_ hx290_1); (try replace hx35_0 := cell_at hq_ hx35_0); (try replace hf35_0 := frz_at hq_ hf35_0); (try replace hx292_0 := cell_at hq_ hx292_0); clear hq_ HO_6 HO_9 HO_45 BK276 BK291 HB; have HO_6 := n0_; have HO_9 := n1_; have HO_45 := n2_; have BK276 := n3_; have BK291 := n4_; have HB := n5_; clear n0_ n1_ n2_ n3_ n4_ n5_)); refine store_event (t := 43) (p := 12) (v := ?vo_w39) (w1 := ((w36.setCell ⟨gb291, 0, none⟩ (.int .i64 ((rd_T43 x6_1 x47_3).f0))).setCell ⟨gb291, 1, none⟩ (.int .i64 ((rd_T43 x6_1 x47_3).f1)))) ?hg ?ho ?hn ?hr ?_; (case ho => rfl); (case hg => rfl); (case hn => rfl); (case hr => first | (go_simp; done) | (go_simp; rfl)); intro w39 hw; have n0_ : Aside0 (Kd.R k43 43 w39 w.heap.size (fun k_ => k_ ≠ gb291) (.slice (some ad290) x6_1.length co25) x6_1) := ⟨(by rw [hw]; exact (by (with_reducible repeat (first | apply Kd.R_alloc | apply Kd.R_drewN | apply Kd.R_drew)); exact Kd.R_mono (Kd.R_far (p := ⟨gb291, 1, none⟩) (Kd.R_far (p := ⟨gb291, 0, none⟩) (Kd.R_mono HO_6.out (fun k_ hk => (⟨hk, hk.2⟩ : _ ∧ k_ ≠ gb291))) (fun _ hk => hk.2) (.int .i64 ((rd_T43 x6_1 x47_3).f0))) (fun _ hk => hk.2) (.int .i64 ((rd_T43 x6_1 x47_3).f1))) (fun _ hk => hk.1.2)))⟩; have n1_ : Aside0 (Kd.R (Kd.int .i64) 3 w39 w.heap.size (fun _ => True) v288 x9_3) := ⟨(by rw [hw]; exact (by (with_reducible repeat (first | apply Kd.R_alloc | apply Kd.R_drewN | apply Kd.R_drew)); exact Kd.R_mono (Kd.R_far (p := ⟨gb291, 1, none⟩) (Kd.R_far (p := ⟨gb291, 0, none⟩) (Kd.R_types HO_9.out BK291.out (by decide)) (fun _ hk => hk.2) (.int .i64 ((rd_T43 x6_1 x47_3).f0))) (fun _ hk => hk.2) (.int .i64 ((rd_T43 x6_1 x47_3).f1))) (fun _ hk => trivial)))⟩; have n2_ : Aside0 (Kd.R k43 43 w39 w.heap.size (fun k_ => k_ ≠ gb291) (.slice (some ad290) x6_1.length co25) x6_1) := ⟨(by rw [hw]; exact (by (with_reducible repeat (first | apply Kd.R_alloc | apply Kd.R_drewN | apply Kd.R_drew)); exact Kd.R_mono (Kd.R_far (p := ⟨gb291, 1, none⟩) (Kd.R_far (p := ⟨gb291, 0, none⟩) (Kd.R_mono HO_45.out (fun k_ hk => (⟨hk, hk.2⟩ : _ ∧ k_ ≠ gb291))) (fun _ hk => hk.2) (.int .i64 ((rd_T43 x6_1 x47_3).f0))) (fun _ hk => hk.2) (.int .i64 ((rd_T43 x6_1 x47_3).f1))) (fun _ hk => hk.1.2)))⟩; have n3_ : Aside0 (w39.heap[gb276]? = some (.cells #[.slice A0_0 l0_0.length c0_0, .slice A0_1 l0_1.length c0_1, .slice A0_2 l0_2.length c0_2] 48 (0, 0))) := ⟨(by rw [hw]; exact (by (with_reducible repeat (first | refine blk_drewN ?_ _ | refine blk_drew ?_ | refine blk_alloc ?_ _)); refine blk_far ?_ NB276_291.out _; (with_reducible repeat (first | refine blk_drewN ?_ _ | refine blk_drew ?_ | refine blk_alloc ?_ _)); refine blk_far ?_ NB276_291.out _; exact bs BK276.out))⟩; have n4_ : Aside0 (w39.heap[gb291]? = some (.cells #[.int .i64 ((rd_T43 x6_1 x47_3).f0), .int .i64 ((rd_T43 x6_1 x47_3).f1)] 43 (0, 0))) := ⟨(by rw [hw]; exact (by (with_reducible repeat (first | refine blk_drewN ?_ _ | refine blk_drew ?_ | refine blk_alloc ?_ _)); refine blk_put (cs := #[.int .i64 ((rd_T43 x6_1 x47_3).f0), .int .i64 0]) ?_ 1 _ rfl; (with_reducible repeat (first | refine blk_drewN ?_ _ | refine blk_drew ?_ | refine blk_alloc ?_ _)); refine blk_put (cs := #[.int .i64 0, .int .i64 0]) ?_ 0 _ rfl; exact bs BK291.out))⟩; have n5_ : Aside0 (Below w.heap.size w w39) := ⟨(by rw [hw]; exact (by repeat (first | (with_reducible first | exact bw HB.out | refine bset ?_ | apply bA | apply bN | apply bD) | exact HB.out)))⟩; clear hw; replace HO_6 := n0_; replace HO_9 := n1_; replace HO_45 := n2_; replace BK276 := n3_; replace BK291 := n4_; replace HB := n5_; clear n0_ n1_ n2_ n3_ n4_ n5_; obtain ⟨hcz40_0, hcz40_1, hfz40_0, hfz40_1⟩ := bz2 BK291.out; obtain ⟨Ao41, co41, eo41⟩ := Kd.R_slice HO_9.out; subst eo41; have p292 : 0 ≤ (((rd_T43 x6_1 x47_3).f0) : Int) := of_decide_eq_true (by first | (with_reducible assumption) | assumption); have q292 : ((rd_T43 x6_1 x47_3).f0) < (x9_3.length : Int) := of_decide_eq_true (by first | (with_reducible assumption) | assumption); obtain ⟨ad292, e292, hx292_0⟩ := Kd.at_int (Kd.R_reads' HO_9.out).2.2 ((rd_T43 x6_1 x47_3).f0) p292 q292; cases e292; replace p292 := eq_true p292; replace q292 := eq_true q292; obtain ⟨hcz42_0, hcz42_1, hcz42_2, hfz42_0, hfz42_1, hfz42_2⟩ := bz3 BK276.out; have p293 : 0 ≤ (((rd_T43 x6_1 x47_3).f0) : Int) := of_decide_eq_true (by first | (with_reducible assumption) | assumption); have q293 : ((rd_T43 x6_1 x47_3).f0) < (l0_0.length : Int) := of_decide_eq_true (by first | (with_reducible assumption) | assumption); obtain ⟨ad293, e293, hx293_0, hx293_1⟩ := at_T62 HR0_0.out ((rd_T43 x6_1 x47_3).f0) p293 q293; cases e293; replace hx293_0 := (HB.out.cell (World.block_lt_of_cell? w _ hx293_0)).trans hx293_0; replace hx293_1 := (HB.out.cell (World.block_lt_of_cell? w _ hx293_1)).trans hx293_1; replace p293 := eq_true p293; replace q293 := eq_true q293; have p294 : 0 ≤ (((rd_T43 x6_1 x47_3).f1) : Int) := of_decide_eq_true (by first | (with_reducible assumption) | assumption); have q294 : ((rd_T43 x6_1 x47_3).f1) < (x9_3.length : Int) := of_decide_eq_true (by first | (with_reducible assumption) | assumption); obtain ⟨ad294, e294, hx294_0⟩ := Kd.at_int (Kd.R_reads' HO_9.out).2.2 ((rd_T43 x6_1 x47_3).f1) p294 q294; obtain rfl : ad292 = ad294 := (by injection e294); replace p294 := eq_true p294; replace q294 := eq_true q294; have p35 : 0 ≤ (((rd_T43 x6_1 x47_3).f1) : Int) := of_decide_eq_true (by first | (with_reducible assumption) | assumption); have q35 : (((rd_T43 x6_1 x47_3).f1) : Int) < ((x9_3.length : Int) : Int) := of_decide_eq_true (by first | (with_reducible assumption) | assumption); obtain ⟨go35, co35, eo35, gb35, gl35, cl35, HG35⟩ := Kd.R_form HO_9.out (by omega); (first | cases eo35 | (injection eo35 with ea_ en_ ec_; (first | subst ea_ | (injection ea_ with ea_; subst ea_)); subst ec_; clear en_)); have GB35 := Aside0.mk gb35; have GG35 := Aside0.mk HG35; clear gb35 gl35 HG35; (first | simp only [add_plain] at hx292_0 | skip); (first | simp only [add_plain] at hx294_0 | skip); obtain ⟨hx35_0, hf35_0⟩ := Kd.R_celln 0 HO_9.out (((rd_T43 x6_1 x47_3).f1) : Int) p35 q35; replace p35 := eq_true p35; replace q35 := eq_true q35; obtain ⟨hy43_, hz43_⟩ := Kd.R_celln 0 HO_9.out (((rd_T43 x6_1 x47_3).f1) : Int) (of_decide_eq_true (by first | (with_reducible assumption) | assumption)) (of_decide_eq_true (by first | (with_reducible assumption) | assumption)); have HP43 := Kd.R_putg HO_9.out (((rd_T43 x6_1 x47_3).f1) : Int) (wrap64 ((rd x9_3 ((rd_T43 x6_1 x47_3).f0)) + ((rd_T62 l0_0 ((rd_T43 x6_1 x47_3).f0)).f1)))) | ((with_reducible refine gate_store (t := 3) (p := 75) rfl ?_); (try (rw [drewN_self w39]; generalize hq_ : World.drewN w39 _ = w39; have n0_ := Aside0.mk (Kd.R_at hq_ HO_6.out); have n1_ := Aside0.mk (Kd.R_at hq_ HO_9.out); have n2_ := Aside0.mk (Kd.R_at hq_ HO_45.out); have n3_ := Aside0.mk (blk_at hq_ BK276.out); have n4_ := Aside0.mk (blk_at hq_ BK291.out); have n5_ := Aside0.mk (below_at hq_ HB.out); (try replace hx290_0 := cell_at hq_ hx290_0); (try replace hx290_1 := cell_at hq_ hx290_1); (try replace hx35_0 := cell_at hq_ hx35_0); (try replace hf35_0 := frz_at hq_ hf35_0); (try replace hx292_0 := cell_at hq_ hx292_0); clear hq_ HO_6 HO_9 HO_45 BK276 BK291 HB; have HO_6 := n0_; have HO_9 := n1_; have HO_45 := n2_; have BK276 := n3_; have BK291 := n4_; have HB := n5_; clear n0_ n1_ n2_ n3_ n4_ n5_; (try (obtain ⟨hy43_, hz43_⟩ := Kd.R_celln 0 HO_9.out (((rd_T43 x6_1 x47_3).f1) : Int) (of_decide_eq_true (by first | (with_reducible assumption) | assumption)) (of_decide_eq_true (by first | (with_reducible assumption) | assumption)))); (try (have HP43 := Kd.R_putg HO_9.out (((rd_T43 x6_1 x47_3).f1) : Int) (wrap64 ((rd x9_3 ((rd_T43 x6_1 x47_3).f0)) + ((rd_T62 l0_0 ((rd_T43 x6_1 x47_3).f0)).f1))))))); refine store_event (t := 3) (p := 75) (v := ?vo_w44) (w1 := (w39.setCell ⟨go35, (((rd_T43 x6_1 x47_3).f1) : Int).toNat, none⟩ (.int .i64 (wrap64 ((rd x9_3 ((rd_T43 x6_1 x47_3).f0)) + ((rd_T62 l0_0 ((rd_T43 x6_1 x47_3).f0)).f1)))))) ?hg ?ho ?hn ?hr ?_; (case ho => rfl); (case hg => rfl); (case hn => rfl); (case hr => first | (go_simp; done) | (go_simp; rfl)); intro w44 hw; have hg : w39.grownBy w44 (some go35) := (by rw [hw]; exact HP43.2); have hp_ : Kd.R (Kd.int .i64) 3 w44 w.heap.size (fun _ => True) (.slice (some ⟨go35, 0, none⟩) x9_3.length co41) y295 := (by rw [hw, Ny295.out]; exact HP43.1); clear HP43; have n0_ := Aside0.mk (Kd.R_over' (v := (.slice (some ⟨go35, 0, none⟩) x9_3.length co41)) (bR HO_6.out) (Kd.R_typed HO_9.out) (by decide) hg); have n1_ := Aside0.mk (hp_); have n2_ := Aside0.mk (Kd.R_over' (v := (.slice (some ⟨go35, 0, none⟩) x9_3.length co41)) (bR HO_45.out) (Kd.R_typed HO_9.out) (by decide) hg); have n3_ := Aside0.mk (blk_grown (bs BK276.out) hg (Kd.R_ne HO_9.out BK276.out (by decide))); have n4_ := Aside0.mk (blk_grown (bs BK291.out) hg (Kd.R_ne HO_9.out BK291.out (by decide))); have n5_ := Aside0.mk ((by rw [hw]; exact below_set (HB.out) GB35.out : Below w.heap.size w w44)); replace HO_6 := n0_; replace HO_9 := n1_; replace HO_45 := n2_; replace BK276 := n3_; replace BK291 := n4_; replace HB := n5_; clear n0_ n1_ n2_ n3_ n4_ n5_; clear hg hw hp_)))
       go_roundg k3
       case measure => have := HK1.out; have := HK2.out; have := HK3.out; omega
       case rel => exact ⟨(y295), (true), (wrap64 (x47_3 + 1)), (by first | rfl | (simp; done) | (simp [*]; done)), (by first | rfl | (simp; done) | (simp [*]; done)), H', ⟨by have := HK1.out; have := HK2.out; have := HK3.out; omega⟩, ⟨by (with_reducible repeat (first | apply Kd.R_alloc | apply Kd.R_drewN | apply Kd.R_drew)); exact Kd.R_mono HO_6.out (fun _ hk => trivial)⟩, ⟨bR HO_9.out⟩, ⟨by (with_reducible repeat (first | apply Kd.R_alloc | apply Kd.R_drewN | apply Kd.R_drew)); exact Kd.R_mono HO_45.out (fun _ hk => trivial)⟩, ⟨bs BK276.out⟩, ⟨by repeat (first | (with_reducible first | exact bw HB.out | refine bset ?_ | apply bA | apply bN | apply bD) | exact HB.out)⟩⟩

/-! ### impl_flat_boundOf: function 43 -/
def impl_flat_boundOf.l0 : Nat → Int → List Int → Int → Int → List (S62) → List Int → List Int → Option (Int)
 | 0, _, _, _, _, _, _, _ => none
 | k + 1, x5, x8, x9, x10, x297000, x297001, x297002 => if x10 < x9 then (if 0 ≤ x10 then (if x10 < (x8.length : Int) then (if x10 < (x297000.length : Int) then (impl_flat_boundOf.l0 k (mx x5 (wrap64 ((rd x8 x10) + ((rd_T62 x297000 x10).f1)))) x8 x9 (wrap64 (x10 + 1)) x297000 x297001 x297002) else (none)) else (none)) else (none)) else (some x5)
def impl_flat_boundOf.f (k : Nat) (l0_0 : List (S62)) (l0_1 : List Int) (l0_2 : List Int) (l1 : List Int) : Option (Int) := impl_flat_boundOf.l0 k 0 l1 (l1.length : Int) 0 l0_0 l0_1 l0_2
theorem impl_flat_boundOf.mono_l : ∀ k, (∀ y0 y1 y2 y3 y4 y5 y6, LeO (impl_flat_boundOf.l0 k y0 y1 y2 y3 y4 y5 y6) (impl_flat_boundOf.l0 (k + 1) y0 y1 y2 y3 y4 y5 y6))
 | 0 => fun _ _ _ _ _ _ _ r h => by simp [impl_flat_boundOf.l0] at h
 | k + 1 => by
  have ih0 := impl_flat_boundOf.mono_l k
  ·intro y0 y1 y2 y3 y4 y5 y6
   unfold impl_flat_boundOf.l0
   repeat' first
   | (with_reducible exact ih0 _ _ _ _ _ _ _)
   | (with_reducible exact LeO.refl _)
   | (with_reducible exact LeO.none _)
   | (with_reducible refine LeO.ite ?_ ?_)
   | (with_reducible refine LeO.bind ?_ (fun _ => ?_))
   | exact ih0 _ _ _ _ _ _ _
   | exact LeO.none _
   | refine LeO.ite ?_ ?_
   | refine LeO.bind ?_ (fun _ => ?_)
theorem impl_flat_boundOf.mono : ∀ a0 a1 a2 a3 k, LeO (impl_flat_boundOf.f k a0 a1 a2 a3) (impl_flat_boundOf.f (k + 1) a0 a1 a2 a3) := by
 intro a0 a1 a2 a3 k
 have ih0 := impl_flat_boundOf.mono_l k
 unfold impl_flat_boundOf.f
 repeat' first
   | (with_reducible exact ih0 _ _ _ _ _ _ _)
   | (with_reducible exact LeO.refl _)
   | (with_reducible exact LeO.none _)
   | (with_reducible refine LeO.ite ?_ ?_)
   | (with_reducible refine LeO.bind ?_ (fun _ => ?_))
   | exact ih0 _ _ _ _ _ _ _
   | exact LeO.none _
   | refine LeO.ite ?_ ?_
   | refine LeO.bind ?_ (fun _ => ?_)
set_option maxHeartbeats 8000000 in
set_option maxRecDepth 100000 in
theorem impl_flat_boundOf.calls (k : Nat) (A0_0 : Option Addr) (c0_0 : Nat) (l0_0 : List (S62)) (A0_1 : Option Addr) (c0_1 : Nat) (l0_1 : List Int) (A0_2 : Option Addr) (c0_2 : Nat) (l0_2 : List Int) (A1 : Option Addr) (c1 : Nat) (l1 : List Int) (r : Int) (w : World) (hr0_0 : Kd.C k62 w A0_0 l0_0.length l0_0) (hc0_0 : l0_0.length ≤ c0_0) (hr0_1 : Kd.C (Kd.int .i64) w A0_1 l0_1.length l0_1) (hc0_1 : l0_1.length ≤ c0_1) (hr0_2 : Kd.C (Kd.int .i64) w A0_2 l0_2.length l0_2) (hc0_2 : l0_2.length ≤ c0_2) (hr1 : Kd.C (Kd.int .i64) w A1 l1.length l1) (hc1 : l1.length ≤ c1) (h : impl_flat_boundOf.f k l0_0 l0_1 l0_2 l1 = some r) :
  Calls Try.prog 43 #[.agg #[.slice A0_0 l0_0.length c0_0, .slice A0_1 l0_1.length c0_1, .slice A0_2 l0_2.length c0_2], .slice A1 l1.length c1] w fun e w' => e = .returned (.int .i64 r) ∧ Below w.heap.size w w' := by
 have hu48 := Try.underlying48
 have HR0_0 := Aside0.mk hr0_0
 have HC0_0 := Aside0.mk hc0_0
 clear hr0_0 hc0_0
 have HR0_1 := Aside0.mk hr0_1
 have HC0_1 := Aside0.mk hc0_1
 clear hr0_1 hc0_1
 have HR0_2 := Aside0.mk hr0_2
 have HC0_2 := Aside0.mk hc0_2
 clear hr0_2 hc0_2
 have HR1 := Aside0.mk hr1
 have HC1 := Aside0.mk hc1
 clear hr1 hc1
 have HB := Aside0.mk (Below.refl w.heap.size w)
 have H : (impl_flat_boundOf.l0 k 0 l1 (l1.length : Int) 0 l0_0 l0_1 l0_2) = some r := h
 clear h
 have H' := Aside0.mk H
 clear H
 go_enter Try.func43, Try.ntmps43
 go_wp2_with (first | ((with_reducible refine gate_dst (N := 2) rfl ?_); refine box_event ?hg (N := 2) ?hd (cs := #[.slice A0_0 l0_0.length c0_0, .slice A0_1 l0_1.length c0_1, .slice A0_2 l0_2.length c0_2]) (t := 48) ?hr ?_; (case hd => rfl); (case hg => rfl); (case hr => first | (go_simp; done) | (go_simp; rfl)); intro gb296 hg w3 hbox hb; have n0_ := Aside0.mk (below_step (bw HB.out) hb); have n1_ := Aside0.mk (hbox); have n2_ := ge_ hg HB.out; have n3_ := ge_ hg HB.out; replace HB := n0_; have BK296 := n1_; have GW296 := n2_; have GE296 := n3_; clear n0_ n1_ n2_ n3_; clear hb hbox hg))
 go_loopg [5, 10] k (fun kq v5 v10 w' => ∃ (x5_1 : Int) (x10_1 : Int), v5 = .int .i64 x5_1 ∧ v10 = .int .i64 x10_1 ∧ Aside0 (impl_flat_boundOf.l0 kq x5_1 l1 (l1.length : Int) x10_1 l0_0 l0_1 l0_2 = some r) ∧ Aside0 (kq ≤ k) ∧ Aside0 (w'.heap[gb296]? = some (.cells #[(.slice A0_0 l0_0.length c0_0), (.slice A0_1 l0_1.length c0_1), (.slice A0_2 l0_2.length c0_2)] 48 (0, 0))) ∧ Aside0 (Below w.heap.size w w'))
 case atStart => exact ⟨(0), (0), (by first | rfl | (simp; done) | (simp [*]; done)), (by first | rfl | (simp; done) | (simp [*]; done)), H', ⟨Nat.le_refl _⟩, ⟨bs BK296.out⟩, ⟨by repeat (first | (with_reducible first | exact bw HB.out | refine bset ?_ | apply bA | apply bN | apply bD) | exact HB.out)⟩⟩
 case round =>
  clear H'
  try clear c1
  try clear p2
  obtain ⟨x5_1, x10_1, rfl, rfl, HA, HK1, BK296, HB⟩ := hrel
  cases gk with
  | zero => exact absurd HA.out (by simp [impl_flat_boundOf.l0])
  | succ k1 =>
   have H := HA.out
   clear HA
   simp only [impl_flat_boundOf.l0] at H
   by_cases c4 : x10_1 < (l1.length : Int)
   rotate_left
   ·rw [if_neg c4] at H
    have c4b0 : decide (x10_1 < (l1.length : Int)) = false := decide_eq_false c4
    clear c4
    obtain rfl := Option.some.inj H
    go_wp2
    go_ret
    exact ⟨by first | rfl | (simp [errW_none, errW_some] <;> rfl) | (simp [*, errW_none, errW_some] <;> rfl), by repeat (first | (with_reducible first | exact bw HB.out | refine bset ?_ | apply bA | apply bN | apply bD) | exact HB.out)⟩
   rw [if_pos c4] at H
   have c4b0 : decide (x10_1 < (l1.length : Int)) = true := decide_eq_true c4
   clear c4
   by_cases c5 : 0 ≤ x10_1
   rotate_left
   ·rw [if_neg c5] at H
    exact absurd H (by simp)
   rw [if_pos c5] at H
   have c5b0 : decide (0 ≤ x10_1) = true := decide_eq_true c5
   clear c5
   by_cases c6 : x10_1 < (l1.length : Int)
   rotate_left
   ·rw [if_neg c6] at H
    exact absurd H (by simp)
   rw [if_pos c6] at H
   have c6b0 : decide (x10_1 < (l1.length : Int)) = true := decide_eq_true c6
   clear c6
   by_cases c7 : x10_1 < (l0_0.length : Int)
   rotate_left
   ·rw [if_neg c7] at H
    exact absurd H (by simp)
   rw [if_pos c7] at H
   have c7b0 : decide (x10_1 < (l0_0.length : Int)) = true := decide_eq_true c7
   clear c7
   obtain ⟨ji8, hji8⟩ : ∃ j_ : Int, (mx x5_1 (wrap64 ((rd l1 x10_1) + ((rd_T62 l0_0 x10_1).f1)))) = j_ := ⟨_, rfl⟩
   replace H : (impl_flat_boundOf.l0 k1 ji8 l1 (l1.length : Int) (wrap64 (x10_1 + 1)) l0_0 l0_1 l0_2) = some r := by first | (rw [hji8] at H; exact H) | (simp only [hji8] at H ⊢; exact H)
   have hji8_ : (if x5_1 < (wrap64 ((rd l1 x10_1) + ((rd_T62 l0_0 x10_1).f1))) then (wrap64 ((rd l1 x10_1) + ((rd_T62 l0_0 x10_1).f1))) else x5_1) = ji8 := hji8
   have H' := Aside0.mk H
   clear H
   have p297 : 0 ≤ (x10_1 : Int) := of_decide_eq_true (by first | (with_reducible assumption) | assumption)
   have q297 : x10_1 < (l1.length : Int) := of_decide_eq_true (by first | (with_reducible assumption) | assumption)
   obtain ⟨ad297, e297, hx297_0⟩ := Kd.at_int HR1.out x10_1 p297 q297
   cases e297
   replace hx297_0 := (HB.out.cell (World.block_lt_of_cell? w _ hx297_0)).trans hx297_0
   replace p297 := eq_true p297
   replace q297 := eq_true q297
   obtain ⟨hcz9_0, hcz9_1, hcz9_2, hfz9_0, hfz9_1, hfz9_2⟩ := bz3 BK296.out
   have p298 : 0 ≤ (x10_1 : Int) := of_decide_eq_true (by first | (with_reducible assumption) | assumption)
   have q298 : x10_1 < (l0_0.length : Int) := of_decide_eq_true (by first | (with_reducible assumption) | assumption)
   obtain ⟨ad298, e298, hx298_0, hx298_1⟩ := at_T62 HR0_0.out x10_1 p298 q298
   cases e298
   replace hx298_0 := (HB.out.cell (World.block_lt_of_cell? w _ hx298_0)).trans hx298_0
   replace hx298_1 := (HB.out.cell (World.block_lt_of_cell? w _ hx298_1)).trans hx298_1
   replace p298 := eq_true p298
   replace q298 := eq_true q298
   go_wp2
   go_roundg k1
   case measure => have := HK1.out; omega
   case rel => exact ⟨(ji8), (wrap64 (x10_1 + 1)), (by first | rfl | (simp; done) | (simp only [← hji8] <;> (first | rfl | simp)) | (simp [*]; done)), (by first | rfl | (simp; done) | (simp [*]; done)), H', ⟨by have := HK1.out; omega⟩, ⟨bs BK296.out⟩, ⟨by repeat (first | (with_reducible first | exact bw HB.out | refine bset ?_ | apply bA | apply bN | apply bD) | exact HB.out)⟩⟩

/-! ### impl_flat_mayEnd: function 32 -/
def impl_flat_mayEnd.f (k : Nat) (l0_0 : List (S62)) (l0_1 : List Int) (l0_2 : List Int) (l1 : List (S43)) (a2 : Int) : Option (Bool) := (impl_flat_headsWith.f k l0_0 l0_1 l0_2 l1).bind fun bt300 => (if bt300.2 = true then ((impl_flat_boundOf.f k l0_0 l0_1 l0_2 bt300.1).bind fun t304 => (some (decide (t304 ≥ a2)))) else (some true))
theorem impl_flat_mayEnd.mono : ∀ a0 a1 a2 a3 a4 k, LeO (impl_flat_mayEnd.f k a0 a1 a2 a3 a4) (impl_flat_mayEnd.f (k + 1) a0 a1 a2 a3 a4) := by
 intro a0 a1 a2 a3 a4 k
 unfold impl_flat_mayEnd.f
 repeat' first
   | (with_reducible exact impl_flat_boundOf.mono _ _ _ _ _)
   | (with_reducible exact impl_flat_headsWith.mono _ _ _ _ _)
   | (with_reducible exact LeO.refl _)
   | (with_reducible exact LeO.none _)
   | (with_reducible refine LeO.ite ?_ ?_)
   | (with_reducible refine LeO.bind ?_ (fun _ => ?_))
   | exact impl_flat_boundOf.mono _ _ _ _ _
   | exact impl_flat_headsWith.mono _ _ _ _ _
   | exact LeO.none _
   | refine LeO.ite ?_ ?_
   | refine LeO.bind ?_ (fun _ => ?_)
set_option maxHeartbeats 8000000 in
set_option maxRecDepth 100000 in
theorem impl_flat_mayEnd.calls (k : Nat) (A0_0 : Option Addr) (c0_0 : Nat) (l0_0 : List (S62)) (A0_1 : Option Addr) (c0_1 : Nat) (l0_1 : List Int) (A0_2 : Option Addr) (c0_2 : Nat) (l0_2 : List Int) (A1 : Option Addr) (c1 : Nat) (l1 : List (S43)) (a2 : Int) (r : Bool) (w : World) (hr0_0 : Kd.C k62 w A0_0 l0_0.length l0_0) (hc0_0 : l0_0.length ≤ c0_0) (hr0_1 : Kd.C (Kd.int .i64) w A0_1 l0_1.length l0_1) (hc0_1 : l0_1.length ≤ c0_1) (hr0_2 : Kd.C (Kd.int .i64) w A0_2 l0_2.length l0_2) (hc0_2 : l0_2.length ≤ c0_2) (hr1 : Kd.C k43 w A1 l1.length l1) (hc1 : l1.length ≤ c1) (h : impl_flat_mayEnd.f k l0_0 l0_1 l0_2 l1 a2 = some r) :
  Calls Try.prog 32 #[.agg #[.slice A0_0 l0_0.length c0_0, .slice A0_1 l0_1.length c0_1, .slice A0_2 l0_2.length c0_2], .slice A1 l1.length c1, .int .i64 a2] w fun e w' => e = .returned (.bool r) ∧ Below w.heap.size w w' := by
 have hu48 := Try.underlying48
 have HR0_0 := Aside0.mk hr0_0
 have HC0_0 := Aside0.mk hc0_0
 clear hr0_0 hc0_0
 have HR0_1 := Aside0.mk hr0_1
 have HC0_1 := Aside0.mk hc0_1
 clear hr0_1 hc0_1
 have HR0_2 := Aside0.mk hr0_2
 have HC0_2 := Aside0.mk hc0_2
 clear hr0_2 hc0_2
 have HR1 := Aside0.mk hr1
 have HC1 := Aside0.mk hc1
 clear hr1 hc1
 have HB := Aside0.mk (Below.refl w.heap.size w)
 have H : ((impl_flat_headsWith.f k l0_0 l0_1 l0_2 l1).bind fun bt300 => (if bt300.2 = true then ((impl_flat_boundOf.f k l0_0 l0_1 l0_2 bt300.1).bind fun t304 => (some (decide (t304 ≥ a2)))) else (some true))) = some r := h
 clear h
 replace H := Option.bind_eq_some_iff.mp H
 obtain ⟨⟨t300, t303⟩, A40, H⟩ := H
 replace H : (if t303 = true then ((impl_flat_boundOf.f k l0_0 l0_1 l0_2 t300).bind fun t304 => (some (decide (t304 ≥ a2)))) else (some true)) = some r := H
 have A4 := Aside0.mk A40
 clear A40
 by_cases c5 : t303 = true
 rotate_left
 ·replace c5 := Bool.eq_false_iff.mpr c5
  subst c5
  have H1 : (some true) = some r := by rw [if_neg (show ¬ (false = true) by decide)] at H; exact H
  clear H
  have H := H1
  clear H1
  obtain rfl := Option.some.inj H
  go_enter Try.func32, Try.ntmps32
  go_wp2_with (first | ((with_reducible refine gate_dst (N := 3) rfl ?_); refine box_event ?hg (N := 3) ?hd (cs := #[.slice A0_0 l0_0.length c0_0, .slice A0_1 l0_1.length c0_1, .slice A0_2 l0_2.length c0_2]) (t := 48) ?hr ?_; (case hd => rfl); (case hg => rfl); (case hr => first | (go_simp; done) | (go_simp; rfl)); intro gb299 hg w13 hbox hb; have n0_ := Aside0.mk (below_step (bw HB.out) hb); have n1_ := Aside0.mk (hbox); have n2_ := ge_ hg HB.out; have n3_ := ge_ hg HB.out; replace HB := n0_; have BK299 := n1_; have GW299 := n2_; have GE299 := n3_; clear n0_ n1_ n2_ n3_; clear hb hbox hg; obtain ⟨hcz14_0, hcz14_1, hcz14_2, hfz14_0, hfz14_1, hfz14_2⟩ := bz3 BK299.out) | ((with_reducible refine gate_callee (f := 42) rfl ?_); refine goesL_ (some 12) rfl rfl Try.func42 (by kernel_rfl) rfl #[.agg #[.slice A0_0 l0_0.length c0_0, .slice A0_1 l0_1.length c0_1, .slice A0_2 l0_2.length c0_2], .slice A1 l1.length c1] rfl (by (try simp only [mA_]); first | done | rfl | (simp only [List.length_drop, List.length_take]; rfl)) ?_; (with_reducible refine (impl_flat_headsWith.calls k _ _ l0_0 _ _ l0_1 _ _ l0_2 _ _ l1 t300 false _ ?side1 ?side2 ?side3 ?side4 ?side5 ?side6 ?side7 ?side8 A4.out).mono ?_); (case side1 => first | exact bC HR0_0.out HB.out | exact Kd.C_below HR0_0.out HB.out); (case side2 => exact HC0_0.out); (case side3 => first | exact bC HR0_1.out HB.out | exact Kd.C_below HR0_1.out HB.out); (case side4 => exact HC0_1.out); (case side5 => first | exact bC HR0_2.out HB.out | exact Kd.C_below HR0_2.out HB.out); (case side6 => exact HC0_2.out); (case side7 => first | exact bC HR1.out HB.out | exact Kd.C_below HR1.out HB.out); (case side8 => exact HC1.out); rintro e w15 ⟨v301, rfl, ho0, hb⟩; refine ⟨_, rfl, ?_⟩; have n0_ := Aside0.mk (Kd.R_lower ho0 (below_size (by repeat (first | (with_reducible first | exact bw HB.out | refine bset ?_ | apply bA | apply bN | apply bD) | exact HB.out)))); have n1_ := Aside0.mk (blk_below (bs BK299.out) hb); have n2_ := Aside0.mk (below_step (by repeat (first | (with_reducible first | exact bw HB.out | refine bset ?_ | apply bA | apply bN | apply bD) | exact HB.out)) hb); have HO302 := n0_; replace BK299 := n1_; replace HB := n2_; clear n0_ n1_ n2_; (try clear hb); (try clear hb2); (try clear hk); (try clear hi); (try clear ho0)))
  go_ret
  exact ⟨by first | rfl | (simp [errW_none, errW_some] <;> rfl) | (simp [*, errW_none, errW_some] <;> rfl), by repeat (first | (with_reducible first | exact bw HB.out | refine bset ?_ | apply bA | apply bN | apply bD) | exact HB.out)⟩
 subst c5
 have H1 : ((impl_flat_boundOf.f k l0_0 l0_1 l0_2 t300).bind fun t304 => (some (decide (t304 ≥ a2)))) = some r := by rw [if_pos rfl] at H; exact H
 clear H
 have H := H1
 clear H1
 replace H := Option.bind_eq_some_iff.mp H
 obtain ⟨t304, A60, H⟩ := H
 replace H : (some (decide (t304 ≥ a2))) = some r := H
 have A6 := Aside0.mk A60
 clear A60
 obtain rfl := Option.some.inj H
 go_enter Try.func32, Try.ntmps32
 go_wp2_with (first | ((with_reducible refine gate_dst (N := 3) rfl ?_); refine box_event ?hg (N := 3) ?hd (cs := #[.slice A0_0 l0_0.length c0_0, .slice A0_1 l0_1.length c0_1, .slice A0_2 l0_2.length c0_2]) (t := 48) ?hr ?_; (case hd => rfl); (case hg => rfl); (case hr => first | (go_simp; done) | (go_simp; rfl)); intro gb299 hg w7 hbox hb; have n0_ := Aside0.mk (below_step (bw HB.out) hb); have n1_ := Aside0.mk (hbox); have n2_ := ge_ hg HB.out; have n3_ := ge_ hg HB.out; replace HB := n0_; have BK299 := n1_; have GW299 := n2_; have GE299 := n3_; clear n0_ n1_ n2_ n3_; clear hb hbox hg; obtain ⟨hcz8_0, hcz8_1, hcz8_2, hfz8_0, hfz8_1, hfz8_2⟩ := bz3 BK299.out) | ((with_reducible refine gate_callee (f := 42) rfl ?_); refine goesL_ (some 12) rfl rfl Try.func42 (by kernel_rfl) rfl #[.agg #[.slice A0_0 l0_0.length c0_0, .slice A0_1 l0_1.length c0_1, .slice A0_2 l0_2.length c0_2], .slice A1 l1.length c1] rfl (by (try simp only [mA_]); first | done | rfl | (simp only [List.length_drop, List.length_take]; rfl)) ?_; (with_reducible refine (impl_flat_headsWith.calls k _ _ l0_0 _ _ l0_1 _ _ l0_2 _ _ l1 t300 true _ ?side1 ?side2 ?side3 ?side4 ?side5 ?side6 ?side7 ?side8 A4.out).mono ?_); (case side1 => first | exact bC HR0_0.out HB.out | exact Kd.C_below HR0_0.out HB.out); (case side2 => exact HC0_0.out); (case side3 => first | exact bC HR0_1.out HB.out | exact Kd.C_below HR0_1.out HB.out); (case side4 => exact HC0_1.out); (case side5 => first | exact bC HR0_2.out HB.out | exact Kd.C_below HR0_2.out HB.out); (case side6 => exact HC0_2.out); (case side7 => first | exact bC HR1.out HB.out | exact Kd.C_below HR1.out HB.out); (case side8 => exact HC1.out); rintro e w9 ⟨v301, rfl, ho0, hb⟩; refine ⟨_, rfl, ?_⟩; have n0_ := Aside0.mk (Kd.R_lower ho0 (below_size (by repeat (first | (with_reducible first | exact bw HB.out | refine bset ?_ | apply bA | apply bN | apply bD) | exact HB.out)))); have n1_ := Aside0.mk (blk_below (bs BK299.out) hb); have n2_ := Aside0.mk (below_step (by repeat (first | (with_reducible first | exact bw HB.out | refine bset ?_ | apply bA | apply bN | apply bD) | exact HB.out)) hb); have HO302 := n0_; replace BK299 := n1_; replace HB := n2_; clear n0_ n1_ n2_; (try clear hb); (try clear hb2); (try clear hk); (try clear hi); (try clear ho0); obtain ⟨hcz10_0, hcz10_1, hcz10_2, hfz10_0, hfz10_1, hfz10_2⟩ := bz3 BK299.out; obtain ⟨Ao11, co11, eo11⟩ := Kd.R_slice HO302.out; subst eo11) | (go_at_call 43; (with_reducible refine (impl_flat_boundOf.calls k _ _ l0_0 _ _ l0_1 _ _ l0_2 _ _ t300 t304 _ ?side1 ?side2 ?side3 ?side4 ?side5 ?side6 ?side7 ?side8 A6.out).mono ?_); (case side1 => first | exact bC HR0_0.out HB.out | exact Kd.C_below HR0_0.out HB.out); (case side2 => exact HC0_0.out); (case side3 => first | exact bC HR0_1.out HB.out | exact Kd.C_below HR0_1.out HB.out); (case side4 => exact HC0_1.out); (case side5 => first | exact bC HR0_2.out HB.out | exact Kd.C_below HR0_2.out HB.out); (case side6 => exact HC0_2.out); (case side7 => repeat (first | exact (Kd.R_reads' HO302.out).2.2 | (with_reducible refine Kd.C_alloc ?_ _) | (with_reducible refine Kd.C_drewN ?_ _) | (with_reducible refine Kd.C_drew ?_))); (case side8 => exact (Kd.R_reads' HO302.out).2.1); rintro e w12 ⟨rfl, hb⟩; have n0_ := Aside0.mk (Kd.R_below (bR HO302.out) hb); have n1_ := Aside0.mk (blk_below (bs BK299.out) hb); have n2_ := Aside0.mk (below_step (by repeat (first | (with_reducible first | exact bw HB.out | refine bset ?_ | apply bA | apply bN | apply bD) | exact HB.out)) hb); replace HO302 := n0_; replace BK299 := n1_; replace HB := n2_; clear n0_ n1_ n2_; (try clear hb); (try clear hb2); (try clear hk); (try clear hi)))
 go_ret
 exact ⟨by first | rfl | (simp [errW_none, errW_some] <;> rfl) | (simp [*, errW_none, errW_some] <;> rfl), by repeat (first | (with_reducible first | exact bw HB.out | refine bset ?_ | apply bA | apply bN | apply bD) | exact HB.out)⟩

end Go.Proofs.Ytdnphdbahhfcgaa.X
