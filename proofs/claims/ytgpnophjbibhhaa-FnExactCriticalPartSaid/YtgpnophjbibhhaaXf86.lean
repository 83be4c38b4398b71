-- Written by a program of this session (wip/gen/xp.py, over the kit's printer). Not trusted: Lean checks it.
import Derived.Test.YtgpnophjbibhhaaX0
import Derived.Test.YtgpnophjbibhhaaXf101
import Derived.Test.YtgpnophjbibhhaaXf122
import Derived.Test.YtgpnophjbibhhaaXf89
namespace Go.Proofs.Ytgpnophjbibhhaa.X
open Go.RowKit Go.Proofs.YtgpnophjbibhhaaW.PrintWords Go.Proofs.YtgpnophjbibhhaaW.PrintLast Go.Proofs.YtgpnophjbibhhaaW.PrintMore
attribute [local go_sem] max2_int min2_int max_two min_two max_three min_three max_four min_four   -- for this text's walks alone
set_option linter.unusedVariables false
set_option linter.unusedSimpArgs false

/-! ### spec_l5Next: function 177 -/
abbrev q177_0 : Array Bool := ⟨rl_ [30] false⟩
abbrev q177_3 : Array Bool := ⟨rl_ [3, 27] true⟩
abbrev q177_11 : Array Bool := ⟨rl_ [11, 19] true⟩
abbrev q177_26 : Array Bool := ⟨rl_ [26, 4] true⟩
abbrev q177_27 : Array Bool := ⟨rl_ [27, 3] true⟩
def spec_l5Next.l0 : Nat → List (S89) → List Int → Int → Int → Int → Option (Int)
 | 0, _, _, _, _, _ => none
 | k + 1, x0, x1, x2, x7, x8 => if x8 < (x0.length : Int) then ((spec_l1Has.f k x1 x8).bind fun t253 => (if t253 = true then (spec_l5Next.l0 k x0 x1 x2 x7 (wrap64 (x8 + 1))) else (if 0 ≤ x8 then (if ((rd_T89 x0 x8).f2) ≤ x2 then (if x7 < 0 then (spec_l5Next.l0 k x0 x1 x2 x8 (wrap64 (x8 + 1))) else (if 0 ≤ x7 then (if x7 < (x0.length : Int) then (if ((rd_T89 x0 x8).f3) < ((rd_T89 x0 x7).f3) then (spec_l5Next.l0 k x0 x1 x2 x8 (wrap64 (x8 + 1))) else (spec_l5Next.l0 k x0 x1 x2 x7 (wrap64 (x8 + 1)))) else (none)) else (none))) else (spec_l5Next.l0 k x0 x1 x2 x7 (wrap64 (x8 + 1)))) else (none)))) else (some x7)
def spec_l5Next.f (k : Nat) (l0 : List (S89)) (l1 : List Int) (a2 : Int) : Option (Int) := spec_l5Next.l0 k l0 l1 a2 (-1) 0
theorem spec_l5Next.mono_l : ∀ k, (∀ y0 y1 y2 y3 y4, LeO (spec_l5Next.l0 k y0 y1 y2 y3 y4) (spec_l5Next.l0 (k + 1) y0 y1 y2 y3 y4))
 | 0 => fun _ _ _ _ _ r h => by simp [spec_l5Next.l0] at h
 | k + 1 => by
  have ih0 := spec_l5Next.mono_l k
  ·intro y0 y1 y2 y3 y4
   unfold spec_l5Next.l0
   repeat' first
   | (with_reducible exact ih0 _ _ _ _ _)
   | (with_reducible exact spec_l1Has.mono _ _ _)
   | (with_reducible exact LeO.refl _)
   | (with_reducible exact LeO.none _)
   | (with_reducible refine LeO.ite ?_ ?_)
   | (with_reducible refine LeO.bind ?_ (fun _ => ?_))
   | exact ih0 _ _ _ _ _
   | exact spec_l1Has.mono _ _ _
   | exact LeO.none _
   | refine LeO.ite ?_ ?_
   | refine LeO.bind ?_ (fun _ => ?_)
theorem spec_l5Next.mono : ∀ a0 a1 a2 k, LeO (spec_l5Next.f k a0 a1 a2) (spec_l5Next.f (k + 1) a0 a1 a2) := by
 intro a0 a1 a2 k
 have ih0 := spec_l5Next.mono_l k
 unfold spec_l5Next.f
 repeat' first
   | (with_reducible exact ih0 _ _ _ _ _)
   | (with_reducible exact spec_l1Has.mono _ _ _)
   | (with_reducible exact LeO.refl _)
   | (with_reducible exact LeO.none _)
   | (with_reducible refine LeO.ite ?_ ?_)
   | (with_reducible refine LeO.bind ?_ (fun _ => ?_))
   | exact ih0 _ _ _ _ _
   | exact spec_l1Has.mono _ _ _
   | exact LeO.none _
   | refine LeO.ite ?_ ?_
   | refine LeO.bind ?_ (fun _ => ?_)
def spec_l5Next.T5 : Bool × List (List Nat × List Nat) := (true, [([], []), ([], []), ([0, 1], [0, 1]), ([2], [2]), ([3, 2], [3]), ([4], [4]), ([4], [4]), ([5, 6, 4], [4, 5, 6]), ([7, 4], [4, 7]), ([8, 4], [4, 8]), ([4], [4]), ([9, 10, 4], [4, 9, 10]), ([4, 11], [4, 11]), ([12, 4], [12]), ([13], [13]), ([14, 13], [13, 14]), ([15, 13, 13], [13, 15]), ([16], [16]), ([16], [16]), ([17, 18, 16], [16, 17, 18]), ([19, 16], [16, 19]), ([20, 16], [16, 20]), ([16], [16]), ([16], [16]), ([22, 23, 16], [16, 22, 23]), ([24, 16], [16, 24]), ([25, 16], [16, 25]), ([21, 26, 16], [16, 21, 26]), ([16, 27, 13], [13, 16, 27]), ([13, 28], [13, 28])])
def spec_l5Next.B5 : List Nat := [0, 0, 3, 7, 15, 31, 31, 127, 255, 511, 31, 2047, 4095, 8191, 16383, 32767, 65535, 131071, 131071, 524287, 1048575, 2097151, 131071, 131071, 12713983, 29491199, 63045631, 134217727, 268435455, 536870911]
theorem spec_l5Next.tab5 : rtab .any (opsOf Try.f177 5) = spec_l5Next.T5 := by kernel_rfl
theorem spec_l5Next.bits5 : waitsOk spec_l5Next.T5.2 spec_l5Next.B5 = true := by kernel_rfl
set_option maxHeartbeats 8000000 in
set_option maxRecDepth 100000 in
theorem spec_l5Next.calls (k : Nat) (A0 : Option Addr) (c0 : Nat) (l0 : List (S89)) (A1 : Option Addr) (c1 : Nat) (l1 : List Int) (a2 : Int) (r : Int) (w : World) (hr0 : Kd.C k89 w A0 l0.length l0) (hc0 : l0.length ≤ c0) (hr1 : Kd.C (Kd.int .i64) w A1 l1.length l1) (hc1 : l1.length ≤ c1) (h : spec_l5Next.f k l0 l1 a2 = some r) :
  Calls Try.prog 177 #[.slice A0 l0.length c0, .slice A1 l1.length c1, .int .i64 a2] w fun e w' => e = .returned (.int .i64 r) ∧ Below w.heap.size w w' := by
 have HR0 := Aside0.mk hr0
 have HC0 := Aside0.mk hc0
 clear hr0 hc0
 have HR1 := Aside0.mk hr1
 have HC1 := Aside0.mk hc1
 clear hr1 hc1
 have HB := Aside0.mk (Below.refl w.heap.size w)
 have H : (spec_l5Next.l0 k l0 l1 a2 (-1) 0) = some r := h
 clear h
 have H' := Aside0.mk H
 clear H
 go_enter Try.func177, Try.ntmps177
 go_wp2
 go_loopg [7, 8] k (fun kq v7 v8 w' => ∃ (x7_1 : Int) (x8_1 : Int), v7 = .int .i64 x7_1 ∧ v8 = .int .i64 x8_1 ∧ Aside0 (spec_l5Next.l0 kq l0 l1 a2 x7_1 x8_1 = some r) ∧ Aside0 (kq ≤ k) ∧ Aside0 (Below w.heap.size w w'))
 case atStart => exact ⟨((-1)), (0), (by first | rfl | (simp; done) | (simp [*]; done)), (by first | rfl | (simp; done) | (simp [*]; done)), H', ⟨Nat.le_refl _⟩, ⟨bw HB.out⟩⟩
 case round =>
  clear H'
  try clear c1
  try clear p2
  obtain ⟨x7_1, x8_1, rfl, rfl, HA, HK1, HB⟩ := hrel
  cases gk with
  | zero => exact absurd HA.out (by simp [spec_l5Next.l0])
  | succ k1 =>
   have H := HA.out
   clear HA
   simp only [spec_l5Next.l0] at H
   by_cases c4 : x8_1 < (l0.length : Int)
   rotate_left
   ·rw [if_neg c4] at H
    have c4b0 : decide (x8_1 < (l0.length : Int)) = false := decide_eq_false c4
    clear c4
    obtain rfl := Option.some.inj H
    go_wp2
    go_ret
    exact ⟨by first | rfl | (simp [errW_none, errW_some] <;> rfl) | (simp [*, errW_none, errW_some] <;> rfl), bw HB.out⟩
   rw [if_pos c4] at H
   have c4b0 : decide (x8_1 < (l0.length : Int)) = true := decide_eq_true c4
   clear c4
   replace H := Option.bind_eq_some_iff.mp H
   obtain ⟨t253, A50, H⟩ := H
   replace H : (if t253 = true then (spec_l5Next.l0 k1 l0 l1 a2 x7_1 (wrap64 (x8_1 + 1))) else (if 0 ≤ x8_1 then (if ((rd_T89 l0 x8_1).f2) ≤ a2 then (if x7_1 < 0 then (spec_l5Next.l0 k1 l0 l1 a2 x8_1 (wrap64 (x8_1 + 1))) else (if 0 ≤ x7_1 then (if x7_1 < (l0.length : Int) then (if ((rd_T89 l0 x8_1).f3) < ((rd_T89 l0 x7_1).f3) then (spec_l5Next.l0 k1 l0 l1 a2 x8_1 (wrap64 (x8_1 + 1))) else (spec_l5Next.l0 k1 l0 l1 a2 x7_1 (wrap64 (x8_1 + 1)))) else (none)) else (none))) else (spec_l5Next.l0 k1 l0 l1 a2 x7_1 (wrap64 (x8_1 + 1)))) else (none))) = some r := H
   have A5 := Aside0.mk A50
   clear A50
   by_cases c6 : t253 = true
   ·subst c6
    have H1 : (spec_l5Next.l0 k1 l0 l1 a2 x7_1 (wrap64 (x8_1 + 1))) = some r := by rw [if_pos rfl] at H; exact H
    clear H
    have H := H1
    clear H1
    have H' := Aside0.mk H
    clear H
    try go_wp2
    have n0_ := Aside0.mk (below_drew1 HB.out)
    replace HB := n0_
    clear n0_
    refine start_ (n := 30) (S := fun w' => True) (ds := []) q177_0 (by kernel_rfl) rfl rfl trivial (fun hHeld => ?_); refine with_tabW spec_l5Next.tab5 spec_l5Next.bits5 (fun HT_ HW_ => ?_)
    generalize wr.drew = w7 at HB hHeld ⊢
    refine pup_ (i := 0) (N := some 15) HT_ rfl rfl (by kernel_rfl) (fun _ _ _ h => h) (Or.inl ⟨by rfl, by intro w'; go_simp; with_reducible rfl⟩) (by simp only [aq_]; rfl) ?_
    refine pup_ (i := 1) (N := some 16) HT_ rfl rfl (by kernel_rfl) (fun _ _ _ h => h) (Or.inl ⟨by rfl, by intro w'; go_simp; with_reducible rfl⟩) (by simp only [aq_]; rfl) ?_
    refine one_ (i := 2) (N := some 17) q177_3 rfl rfl (one_of HT_.out (by kernel_rfl)) (by decide) (fun K hK => ?_)
    refine goes_ Try.func155 (by kernel_rfl) rfl #[.slice A1 l1.length c1, .int .i64 x8_1] (by rfl) rfl rfl (by (try simp only [mA_]); first | done | rfl | (simp only [List.length_drop, List.length_take]; rfl)) ?_
    with_reducible refine (spec_l1Has.calls k1 _ _ l1 x8_1 true _ ?side1 ?side2 A5.out).mono ?_
    (case side1 => first | exact bC HR1.out HB.out | exact Kd.C_below HR1.out HB.out)
    (case side2 => exact HC1.out)
    rintro e w' ⟨rfl, ⟨nd, rfl⟩⟩
    refine ⟨_, rfl, ?_⟩
    refine hK.out _ _ trivial (fun hHeld => ?_)
    clear hK K
    refine norm_ (a' := ?_) ?_ ?_
    rotate_left
    ·show Act.put _ (some 17) _ = _
     simp only [aq_]
     rfl
    refine pup_ (i := 3) (N := some 18) HT_ rfl rfl (by kernel_rfl) (fun _ _ _ h => h) (Or.inl ⟨by rfl, by intro w'; go_simp; with_reducible rfl⟩) (by simp only [aq_]; rfl) ?_
    refine pup_ (i := 4) (N := some 19) HT_ rfl rfl (by kernel_rfl) (fun _ _ _ h => h) (Or.inl ⟨by rfl, by intro w'; go_simp; with_reducible rfl⟩) (by simp only [aq_]; rfl) ?_
    refine skp_ HT_ 5 (some 20) rfl rfl (by kernel_rfl) (fun _ _ _ h => h) (by rfl) (by simp only [aq_]; rfl) ?_
    refine skp_ HT_ 6 (some 21) rfl rfl (by kernel_rfl) (fun _ _ _ h => h) (by rfl) (by simp only [aq_]; rfl) ?_
    refine skp_ HT_ 7 (some 22) rfl rfl (by kernel_rfl) (fun _ _ _ h => h) (by rfl) (by simp only [aq_]; rfl) ?_
    refine skp_ HT_ 8 (some 23) rfl rfl (by kernel_rfl) (fun _ _ _ h => h) (by rfl) (by simp only [aq_]; rfl) ?_
    refine skp_ HT_ 9 (some 24) rfl rfl (by kernel_rfl) (fun _ _ _ h => h) (by rfl) (by simp only [aq_]; rfl) ?_
    refine skp_ HT_ 10 (some 25) rfl rfl (by kernel_rfl) (fun _ _ _ h => h) (by rfl) (by simp only [aq_]; rfl) ?_
    refine skp_ HT_ 11 (some 26) rfl rfl (by kernel_rfl) (fun _ _ _ h => h) (by rfl) (by simp only [aq_]; rfl) ?_
    refine pup_ (i := 12) (N := some 27) HT_ rfl rfl (by kernel_rfl) (fun _ _ _ h => h) (Or.inl ⟨by rfl, by intro w'; go_simp; with_reducible rfl⟩) (by simp only [aq_]; rfl) ?_
    refine pup_ (i := 13) (N := some 28) HT_ rfl rfl (by kernel_rfl) (fun _ _ _ h => h) (Or.inl ⟨by rfl, by intro w'; go_simp; with_reducible rfl⟩) (by simp only [aq_]; rfl) ?_
    refine skp_ HT_ 14 (some 29) rfl rfl (by kernel_rfl) (fun _ _ _ h => h) (by rfl) (by simp only [aq_]; rfl) ?_
    refine skp_ HT_ 15 (some 30) rfl rfl (by kernel_rfl) (fun _ _ _ h => h) (by rfl) (by simp only [aq_]; rfl) ?_
    refine skp_ HT_ 16 (some 31) rfl rfl (by kernel_rfl) (fun _ _ _ h => h) (by rfl) (by simp only [aq_]; rfl) ?_
    refine skp_ HT_ 17 (some 32) rfl rfl (by kernel_rfl) (fun _ _ _ h => h) (by rfl) (by simp only [aq_]; rfl) ?_
    refine skp_ HT_ 18 (some 33) rfl rfl (by kernel_rfl) (fun _ _ _ h => h) (by rfl) (by simp only [aq_]; rfl) ?_
    refine skp_ HT_ 19 (some 34) rfl rfl (by kernel_rfl) (fun _ _ _ h => h) (by rfl) (by simp only [aq_]; rfl) ?_
    refine skp_ HT_ 20 (some 35) rfl rfl (by kernel_rfl) (fun _ _ _ h => h) (by rfl) (by simp only [aq_]; rfl) ?_
    refine skp_ HT_ 21 (some 36) rfl rfl (by kernel_rfl) (fun _ _ _ h => h) (by rfl) (by simp only [aq_]; rfl) ?_
    refine skp_ HT_ 22 (some 37) rfl rfl (by kernel_rfl) (fun _ _ _ h => h) (by rfl) (by simp only [aq_]; rfl) ?_
    refine skp_ HT_ 23 (some 38) rfl rfl (by kernel_rfl) (fun _ _ _ h => h) (by rfl) (by simp only [aq_]; rfl) ?_
    refine skp_ HT_ 24 (some 39) rfl rfl (by kernel_rfl) (fun _ _ _ h => h) (by rfl) (by simp only [aq_]; rfl) ?_
    refine skp_ HT_ 25 (some 40) rfl rfl (by kernel_rfl) (fun _ _ _ h => h) (by rfl) (by simp only [aq_]; rfl) ?_
    refine skp_ HT_ 26 (some 41) rfl rfl (by kernel_rfl) (fun _ _ _ h => h) (by rfl) (by simp only [aq_]; rfl) ?_
    refine skp_ HT_ 27 (some 42) rfl rfl (by kernel_rfl) (fun _ _ _ h => h) (by rfl) (by simp only [aq_]; rfl) ?_
    refine skp_ HT_ 28 (some 43) rfl rfl (by kernel_rfl) (fun _ _ _ h => h) (by rfl) (by simp only [aq_]; rfl) ?_
    refine pup_ (i := 29) (N := some 44) HT_ rfl rfl (by kernel_rfl) (fun _ _ _ h => h) (Or.inl ⟨by rfl, by intro w'; go_simp; with_reducible rfl⟩) (by simp only [aq_]; rfl) ?_
    refine done_ (done_of HT_.out (by kernel_rfl)) ?_
    try go_wp2
    go_roundg k1
    case measure => have := HK1.out; omega
    case rel => exact ⟨(x7_1), (wrap64 (x8_1 + 1)), (by first | rfl | (simp; done) | (simp [*]; done)), (by first | rfl | (simp; done) | (simp [*]; done)), H', ⟨by have := HK1.out; omega⟩, ⟨bw HB.out⟩⟩
   replace c6 := Bool.eq_false_iff.mpr c6
   subst c6
   have H1 : (if 0 ≤ x8_1 then (if ((rd_T89 l0 x8_1).f2) ≤ a2 then (if x7_1 < 0 then (spec_l5Next.l0 k1 l0 l1 a2 x8_1 (wrap64 (x8_1 + 1))) else (if 0 ≤ x7_1 then (if x7_1 < (l0.length : Int) then (if ((rd_T89 l0 x8_1).f3) < ((rd_T89 l0 x7_1).f3) then (spec_l5Next.l0 k1 l0 l1 a2 x8_1 (wrap64 (x8_1 + 1))) else (spec_l5Next.l0 k1 l0 l1 a2 x7_1 (wrap64 (x8_1 + 1)))) else (none)) else (none))) else (spec_l5Next.l0 k1 l0 l1 a2 x7_1 (wrap64 (x8_1 + 1)))) else (none)) = some r := by rw [if_neg (show ¬ (false = true) by decide)] at H; exact H
   clear H
   have H := H1
   clear H1
   by_cases c8 : 0 ≤ x8_1
   rotate_left
   ·rw [if_neg c8] at H
    exact absurd H (by simp)
   rw [if_pos c8] at H
   have c8b0 : decide (0 ≤ x8_1) = true := decide_eq_true c8
   clear c8
   by_cases c9 : ((rd_T89 l0 x8_1).f2) ≤ a2
   rotate_left
   ·rw [if_neg c9] at H
    have c9b0 : decide (((rd_T89 l0 x8_1).f2) ≤ a2) = false := decide_eq_false c9
    clear c9
    have H' := Aside0.mk H
    clear H
    try go_wp2
    have n0_ := Aside0.mk (below_drew1 HB.out)
    replace HB := n0_
    clear n0_
    have p254 : 0 ≤ (x8_1 : Int) := of_decide_eq_true (by first | (with_reducible assumption) | assumption)
    have q254 : x8_1 < (l0.length : Int) := of_decide_eq_true (by first | (with_reducible assumption) | assumption)
    obtain ⟨ad254, e254, hx254_0, hx254_1, hx254_2, hx254_3⟩ := at_T89 HR0.out x8_1 p254 q254
    have hw254_3 := hx254_3
    have hw254_2 := hx254_2
    have hw254_1 := hx254_1
    have hw254_0 := hx254_0
    cases e254
    replace hx254_0 := (HB.out.cell (World.block_lt_of_cell? w _ hx254_0)).trans hx254_0
    replace hx254_1 := (HB.out.cell (World.block_lt_of_cell? w _ hx254_1)).trans hx254_1
    replace hx254_2 := (HB.out.cell (World.block_lt_of_cell? w _ hx254_2)).trans hx254_2
    replace hx254_3 := (HB.out.cell (World.block_lt_of_cell? w _ hx254_3)).trans hx254_3
    replace p254 := eq_true p254
    replace q254 := eq_true q254
    refine start_ (n := 30) (S := fun w' => w'.cell? (ad254.add ((x8_1).toNat * 4)) = some (.int .i64 ((rd_T89 l0 x8_1).f0)) ∧ w'.cell? ⟨(ad254.add ((x8_1).toNat * 4)).block, (ad254.add ((x8_1).toNat * 4)).off + 1, none⟩ = some (.int .i64 ((rd_T89 l0 x8_1).f1)) ∧ w'.cell? ⟨(ad254.add ((x8_1).toNat * 4)).block, (ad254.add ((x8_1).toNat * 4)).off + 2, none⟩ = some (.int .i64 ((rd_T89 l0 x8_1).f2)) ∧ w'.cell? ⟨(ad254.add ((x8_1).toNat * 4)).block, (ad254.add ((x8_1).toNat * 4)).off + 3, none⟩ = some (.int .i64 ((rd_T89 l0 x8_1).f3))) (ds := []) q177_0 (by kernel_rfl) rfl rfl ⟨(bcl_ HB.out hw254_0 :), (bcl_ HB.out hw254_1 :), (bcl_ HB.out hw254_2 :), (bcl_ HB.out hw254_3 :)⟩ (fun hHeld => ?_); refine with_tabW spec_l5Next.tab5 spec_l5Next.bits5 (fun HT_ HW_ => ?_)
    generalize wr.drew = w17 at HB hx254_0 hx254_1 hx254_2 hx254_3 hHeld ⊢
    refine pup_ (i := 0) (N := some 15) HT_ rfl rfl (by kernel_rfl) (fun _ _ _ h => h) (Or.inl ⟨by rfl, by intro w'; go_simp; with_reducible rfl⟩) (by simp only [aq_]; rfl) ?_
    refine pup_ (i := 1) (N := some 16) HT_ rfl rfl (by kernel_rfl) (fun _ _ _ h => h) (Or.inl ⟨by rfl, by intro w'; go_simp; with_reducible rfl⟩) (by simp only [aq_]; rfl) ?_
    refine one_ (i := 2) (N := some 17) q177_3 rfl rfl (one_of HT_.out (by kernel_rfl)) (by decide) (fun K hK => ?_)
    refine goes_ Try.func155 (by kernel_rfl) rfl #[.slice A1 l1.length c1, .int .i64 x8_1] (by rfl) rfl rfl (by (try simp only [mA_]); first | done | rfl | (simp only [List.length_drop, List.length_take]; rfl)) ?_
    with_reducible refine (spec_l1Has.calls k1 _ _ l1 x8_1 false _ ?side1 ?side2 A5.out).mono ?_
    (case side1 => first | exact bC HR1.out HB.out | exact Kd.C_below HR1.out HB.out)
    (case side2 => exact HC1.out)
    rintro e w' ⟨rfl, ⟨nd, rfl⟩⟩
    refine ⟨_, rfl, ?_⟩
    refine hK.out _ _ ⟨(bcl_ HB.out hw254_0 :), (bcl_ HB.out hw254_1 :), (bcl_ HB.out hw254_2 :), (bcl_ HB.out hw254_3 :)⟩ (fun hHeld => ?_)
    clear hK K
    refine norm_ (a' := ?_) ?_ ?_
    rotate_left
    ·show Act.put _ (some 17) _ = _
     simp only [aq_]
     rfl
    refine pup_ (i := 3) (N := some 18) HT_ rfl rfl (by kernel_rfl) (fun _ _ _ h => h) (Or.inl ⟨by rfl, by intro w'; go_simp; with_reducible rfl⟩) (by simp only [aq_]; rfl) ?_
    refine pup_ (i := 4) (N := some 19) HT_ rfl rfl (by kernel_rfl) (fun _ _ _ h => h) (Or.inl ⟨by rfl, by intro w'; go_simp; with_reducible rfl⟩) (by simp only [aq_]; rfl) ?_
    refine pup_ (i := 5) (N := some 20) HT_ rfl rfl (by kernel_rfl) (fun _ _ _ h => h) (Or.inl ⟨by rfl, by intro w'; go_simp; with_reducible rfl⟩) (by simp only [aq_]; rfl) ?_
    refine pup_ (i := 6) (N := some 21) HT_ rfl rfl (by kernel_rfl) (fun _ _ _ h => h) (Or.inl ⟨by rfl, by intro w'; go_simp; with_reducible rfl⟩) (by simp only [aq_]; rfl) ?_
    refine pup_ (i := 7) (N := some 22) HT_ rfl rfl (by kernel_rfl) (fun _ _ _ h => h) (Or.inl ⟨by rfl, by intro w'; go_simp; with_reducible rfl⟩) (by simp only [aq_]; rfl) ?_
    refine pup_ (i := 8) (N := some 23) HT_ rfl rfl (by kernel_rfl) (fun _ _ _ h => h) (Or.inl ⟨by rfl, by intro w'; go_simp; with_reducible rfl⟩) (by simp only [aq_]; rfl) ?_
    refine pup_ (i := 10) (N := some 25) HT_ rfl rfl (by kernel_rfl) (fun _ _ _ h => h) (Or.inl ⟨by rfl, by intro w'; go_simp; with_reducible rfl⟩) (by simp only [aq_]; rfl) ?_
    refine take_ (i := 9) (N := some 24) (v := ?_) (a' := ?_) q177_11 rfl rfl (take_ofW HT_.out HW_.out (by kernel_rfl)) (fun _ _ _ h => h) (Or.inl ⟨by rfl, ?_⟩) hHeld ?_ ?_
    rotate_left
    ·rintro w' ⟨s0, s1, s2, s3⟩
     go_simp
     with_reducible rfl
    rotate_left
    ·simp only [aq_]
     rfl
    refine pup_ (i := 11) (N := some 26) HT_ rfl rfl (by kernel_rfl) (fun _ _ _ h => h) (Or.inl ⟨by rfl, by intro w'; go_simp; with_reducible rfl⟩) (by simp only [aq_]; rfl) ?_
    refine pup_ (i := 12) (N := some 27) HT_ rfl rfl (by kernel_rfl) (fun _ _ _ h => h) (Or.inl ⟨by rfl, by intro w'; go_simp; with_reducible rfl⟩) (by simp only [aq_]; rfl) ?_
    refine pup_ (i := 13) (N := some 28) HT_ rfl rfl (by kernel_rfl) (fun _ _ _ h => h) (Or.inl ⟨by rfl, by intro w'; go_simp; with_reducible rfl⟩) (by simp only [aq_]; rfl) ?_
    refine skp_ HT_ 14 (some 29) rfl rfl (by kernel_rfl) (fun _ _ _ h => h) (by rfl) (by simp only [aq_]; rfl) ?_
    refine skp_ HT_ 15 (some 30) rfl rfl (by kernel_rfl) (fun _ _ _ h => h) (by rfl) (by simp only [aq_]; rfl) ?_
    refine skp_ HT_ 16 (some 31) rfl rfl (by kernel_rfl) (fun _ _ _ h => h) (by rfl) (by simp only [aq_]; rfl) ?_
    refine skp_ HT_ 17 (some 32) rfl rfl (by kernel_rfl) (fun _ _ _ h => h) (by rfl) (by simp only [aq_]; rfl) ?_
    refine skp_ HT_ 18 (some 33) rfl rfl (by kernel_rfl) (fun _ _ _ h => h) (by rfl) (by simp only [aq_]; rfl) ?_
    refine skp_ HT_ 19 (some 34) rfl rfl (by kernel_rfl) (fun _ _ _ h => h) (by rfl) (by simp only [aq_]; rfl) ?_
    refine skp_ HT_ 20 (some 35) rfl rfl (by kernel_rfl) (fun _ _ _ h => h) (by rfl) (by simp only [aq_]; rfl) ?_
    refine skp_ HT_ 21 (some 36) rfl rfl (by kernel_rfl) (fun _ _ _ h => h) (by rfl) (by simp only [aq_]; rfl) ?_
    refine skp_ HT_ 22 (some 37) rfl rfl (by kernel_rfl) (fun _ _ _ h => h) (by rfl) (by simp only [aq_]; rfl) ?_
    refine skp_ HT_ 23 (some 38) rfl rfl (by kernel_rfl) (fun _ _ _ h => h) (by rfl) (by simp only [aq_]; rfl) ?_
    refine skp_ HT_ 24 (some 39) rfl rfl (by kernel_rfl) (fun _ _ _ h => h) (by rfl) (by simp only [aq_]; rfl) ?_
    refine skp_ HT_ 25 (some 40) rfl rfl (by kernel_rfl) (fun _ _ _ h => h) (by rfl) (by simp only [aq_]; rfl) ?_
    refine skp_ HT_ 26 (some 41) rfl rfl (by kernel_rfl) (fun _ _ _ h => h) (by rfl) (by simp only [aq_]; rfl) ?_
    refine skp_ HT_ 27 (some 42) rfl rfl (by kernel_rfl) (fun _ _ _ h => h) (by rfl) (by simp only [aq_]; rfl) ?_
    refine skp_ HT_ 28 (some 43) rfl rfl (by kernel_rfl) (fun _ _ _ h => h) (by rfl) (by simp only [aq_]; rfl) ?_
    refine pup_ (i := 29) (N := some 44) HT_ rfl rfl (by kernel_rfl) (fun _ _ _ h => h) (Or.inl ⟨by rfl, by intro w'; go_simp; with_reducible rfl⟩) (by simp only [aq_]; rfl) ?_
    refine done_ (done_of HT_.out (by kernel_rfl)) ?_
    try go_wp2
    go_roundg k1
    case measure => have := HK1.out; omega
    case rel => exact ⟨(x7_1), (wrap64 (x8_1 + 1)), (by first | rfl | (simp; done) | (simp [*]; done)), (by first | rfl | (simp; done) | (simp [*]; done)), H', ⟨by have := HK1.out; omega⟩, ⟨bw HB.out⟩⟩
   rw [if_pos c9] at H
   have c9b0 : decide (((rd_T89 l0 x8_1).f2) ≤ a2) = true := decide_eq_true c9
   clear c9
   by_cases c10 : x7_1 < 0
   ·rw [if_pos c10] at H
    have c10b0 : decide (x7_1 < 0) = true := decide_eq_true c10
    clear c10
    have H' := Aside0.mk H
    clear H
    try go_wp2
    have n0_ := Aside0.mk (below_drew1 HB.out)
    replace HB := n0_
    clear n0_
    have p254 : 0 ≤ (x8_1 : Int) := of_decide_eq_true (by first | (with_reducible assumption) | assumption)
    have q254 : x8_1 < (l0.length : Int) := of_decide_eq_true (by first | (with_reducible assumption) | assumption)
    obtain ⟨ad254, e254, hx254_0, hx254_1, hx254_2, hx254_3⟩ := at_T89 HR0.out x8_1 p254 q254
    have hw254_3 := hx254_3
    have hw254_2 := hx254_2
    have hw254_1 := hx254_1
    have hw254_0 := hx254_0
    cases e254
    replace hx254_0 := (HB.out.cell (World.block_lt_of_cell? w _ hx254_0)).trans hx254_0
    replace hx254_1 := (HB.out.cell (World.block_lt_of_cell? w _ hx254_1)).trans hx254_1
    replace hx254_2 := (HB.out.cell (World.block_lt_of_cell? w _ hx254_2)).trans hx254_2
    replace hx254_3 := (HB.out.cell (World.block_lt_of_cell? w _ hx254_3)).trans hx254_3
    replace p254 := eq_true p254
    replace q254 := eq_true q254
    refine start_ (n := 30) (S := fun w' => w'.cell? (ad254.add ((x8_1).toNat * 4)) = some (.int .i64 ((rd_T89 l0 x8_1).f0)) ∧ w'.cell? ⟨(ad254.add ((x8_1).toNat * 4)).block, (ad254.add ((x8_1).toNat * 4)).off + 1, none⟩ = some (.int .i64 ((rd_T89 l0 x8_1).f1)) ∧ w'.cell? ⟨(ad254.add ((x8_1).toNat * 4)).block, (ad254.add ((x8_1).toNat * 4)).off + 2, none⟩ = some (.int .i64 ((rd_T89 l0 x8_1).f2)) ∧ w'.cell? ⟨(ad254.add ((x8_1).toNat * 4)).block, (ad254.add ((x8_1).toNat * 4)).off + 3, none⟩ = some (.int .i64 ((rd_T89 l0 x8_1).f3))) (ds := []) q177_0 (by kernel_rfl) rfl rfl ⟨(bcl_ HB.out hw254_0 :), (bcl_ HB.out hw254_1 :), (bcl_ HB.out hw254_2 :), (bcl_ HB.out hw254_3 :)⟩ (fun hHeld => ?_); refine with_tabW spec_l5Next.tab5 spec_l5Next.bits5 (fun HT_ HW_ => ?_)
    generalize wr.drew = w11 at HB hx254_0 hx254_1 hx254_2 hx254_3 hHeld ⊢
    refine pup_ (i := 0) (N := some 15) HT_ rfl rfl (by kernel_rfl) (fun _ _ _ h => h) (Or.inl ⟨by rfl, by intro w'; go_simp; with_reducible rfl⟩) (by simp only [aq_]; rfl) ?_
    refine pup_ (i := 1) (N := some 16) HT_ rfl rfl (by kernel_rfl) (fun _ _ _ h => h) (Or.inl ⟨by rfl, by intro w'; go_simp; with_reducible rfl⟩) (by simp only [aq_]; rfl) ?_
    refine one_ (i := 2) (N := some 17) q177_3 rfl rfl (one_of HT_.out (by kernel_rfl)) (by decide) (fun K hK => ?_)
    refine goes_ Try.func155 (by kernel_rfl) rfl #[.slice A1 l1.length c1, .int .i64 x8_1] (by rfl) rfl rfl (by (try simp only [mA_]); first | done | rfl | (simp only [List.length_drop, List.length_take]; rfl)) ?_
    with_reducible refine (spec_l1Has.calls k1 _ _ l1 x8_1 false _ ?side1 ?side2 A5.out).mono ?_
    (case side1 => first | exact bC HR1.out HB.out | exact Kd.C_below HR1.out HB.out)
    (case side2 => exact HC1.out)
    rintro e w' ⟨rfl, ⟨nd, rfl⟩⟩
    refine ⟨_, rfl, ?_⟩
    refine hK.out _ _ ⟨(bcl_ HB.out hw254_0 :), (bcl_ HB.out hw254_1 :), (bcl_ HB.out hw254_2 :), (bcl_ HB.out hw254_3 :)⟩ (fun hHeld => ?_)
    clear hK K
    refine norm_ (a' := ?_) ?_ ?_
    rotate_left
    ·show Act.put _ (some 17) _ = _
     simp only [aq_]
     rfl
    refine pup_ (i := 3) (N := some 18) HT_ rfl rfl (by kernel_rfl) (fun _ _ _ h => h) (Or.inl ⟨by rfl, by intro w'; go_simp; with_reducible rfl⟩) (by simp only [aq_]; rfl) ?_
    refine pup_ (i := 4) (N := some 19) HT_ rfl rfl (by kernel_rfl) (fun _ _ _ h => h) (Or.inl ⟨by rfl, by intro w'; go_simp; with_reducible rfl⟩) (by simp only [aq_]; rfl) ?_
    refine pup_ (i := 5) (N := some 20) HT_ rfl rfl (by kernel_rfl) (fun _ _ _ h => h) (Or.inl ⟨by rfl, by intro w'; go_simp; with_reducible rfl⟩) (by simp only [aq_]; rfl) ?_
    refine pup_ (i := 6) (N := some 21) HT_ rfl rfl (by kernel_rfl) (fun _ _ _ h => h) (Or.inl ⟨by rfl, by intro w'; go_simp; with_reducible rfl⟩) (by simp only [aq_]; rfl) ?_
    refine pup_ (i := 7) (N := some 22) HT_ rfl rfl (by kernel_rfl) (fun _ _ _ h => h) (Or.inl ⟨by rfl, by intro w'; go_simp; with_reducible rfl⟩) (by simp only [aq_]; rfl) ?_
    refine pup_ (i := 8) (N := some 23) HT_ rfl rfl (by kernel_rfl) (fun _ _ _ h => h) (Or.inl ⟨by rfl, by intro w'; go_simp; with_reducible rfl⟩) (by simp only [aq_]; rfl) ?_
    refine pup_ (i := 10) (N := some 25) HT_ rfl rfl (by kernel_rfl) (fun _ _ _ h => h) (Or.inl ⟨by rfl, by intro w'; go_simp; with_reducible rfl⟩) (by simp only [aq_]; rfl) ?_
    refine take_ (i := 9) (N := some 24) (v := ?_) (a' := ?_) q177_11 rfl rfl (take_ofW HT_.out HW_.out (by kernel_rfl)) (fun _ _ _ h => h) (Or.inl ⟨by rfl, ?_⟩) hHeld ?_ ?_
    rotate_left
    ·rintro w' ⟨s0, s1, s2, s3⟩
     go_simp
     with_reducible rfl
    rotate_left
    ·simp only [aq_]
     rfl
    refine pup_ (i := 11) (N := some 26) HT_ rfl rfl (by kernel_rfl) (fun _ _ _ h => h) (Or.inl ⟨by rfl, by intro w'; go_simp; with_reducible rfl⟩) (by simp only [aq_]; rfl) ?_
    refine pup_ (i := 12) (N := some 27) HT_ rfl rfl (by kernel_rfl) (fun _ _ _ h => h) (Or.inl ⟨by rfl, by intro w'; go_simp; with_reducible rfl⟩) (by simp only [aq_]; rfl) ?_
    refine pup_ (i := 13) (N := some 28) HT_ rfl rfl (by kernel_rfl) (fun _ _ _ h => h) (Or.inl ⟨by rfl, by intro w'; go_simp; with_reducible rfl⟩) (by simp only [aq_]; rfl) ?_
    refine pup_ (i := 14) (N := some 29) HT_ rfl rfl (by kernel_rfl) (fun _ _ _ h => h) (Or.inl ⟨by rfl, by intro w'; go_simp; with_reducible rfl⟩) (by simp only [aq_]; rfl) ?_
    refine pup_ (i := 15) (N := some 30) HT_ rfl rfl (by kernel_rfl) (fun _ _ _ h => h) (Or.inl ⟨by rfl, by intro w'; go_simp; with_reducible rfl⟩) (by simp only [aq_]; rfl) ?_
    refine pup_ (i := 16) (N := some 31) HT_ rfl rfl (by kernel_rfl) (fun _ _ _ h => h) (Or.inl ⟨by rfl, by intro w'; go_simp; with_reducible rfl⟩) (by simp only [aq_]; rfl) ?_
    refine skp_ HT_ 17 (some 32) rfl rfl (by kernel_rfl) (fun _ _ _ h => h) (by rfl) (by simp only [aq_]; rfl) ?_
    refine skp_ HT_ 18 (some 33) rfl rfl (by kernel_rfl) (fun _ _ _ h => h) (by rfl) (by simp only [aq_]; rfl) ?_
    refine skp_ HT_ 19 (some 34) rfl rfl (by kernel_rfl) (fun _ _ _ h => h) (by rfl) (by simp only [aq_]; rfl) ?_
    refine skp_ HT_ 20 (some 35) rfl rfl (by kernel_rfl) (fun _ _ _ h => h) (by rfl) (by simp only [aq_]; rfl) ?_
    refine skp_ HT_ 21 (some 36) rfl rfl (by kernel_rfl) (fun _ _ _ h => h) (by rfl) (by simp only [aq_]; rfl) ?_
    refine skp_ HT_ 22 (some 37) rfl rfl (by kernel_rfl) (fun _ _ _ h => h) (by rfl) (by simp only [aq_]; rfl) ?_
    refine skp_ HT_ 23 (some 38) rfl rfl (by kernel_rfl) (fun _ _ _ h => h) (by rfl) (by simp only [aq_]; rfl) ?_
    refine skp_ HT_ 24 (some 39) rfl rfl (by kernel_rfl) (fun _ _ _ h => h) (by rfl) (by simp only [aq_]; rfl) ?_
    refine skp_ HT_ 25 (some 40) rfl rfl (by kernel_rfl) (fun _ _ _ h => h) (by rfl) (by simp only [aq_]; rfl) ?_
    refine skp_ HT_ 26 (some 41) rfl rfl (by kernel_rfl) (fun _ _ _ h => h) (by rfl) (by simp only [aq_]; rfl) ?_
    refine skp_ HT_ 27 (some 42) rfl rfl (by kernel_rfl) (fun _ _ _ h => h) (by rfl) (by simp only [aq_]; rfl) ?_
    refine pup_ (i := 28) (N := some 43) HT_ rfl rfl (by kernel_rfl) (fun _ _ _ h => h) (Or.inl ⟨by rfl, by intro w'; go_simp; with_reducible rfl⟩) (by simp only [aq_]; rfl) ?_
    refine pup_ (i := 29) (N := some 44) HT_ rfl rfl (by kernel_rfl) (fun _ _ _ h => h) (Or.inl ⟨by rfl, by intro w'; go_simp; with_reducible rfl⟩) (by simp only [aq_]; rfl) ?_
    refine done_ (done_of HT_.out (by kernel_rfl)) ?_
    try go_wp2
    go_roundg k1
    case measure => have := HK1.out; omega
    case rel => exact ⟨(x8_1), (wrap64 (x8_1 + 1)), (by first | rfl | (simp; done) | (simp [*]; done)), (by first | rfl | (simp; done) | (simp [*]; done)), H', ⟨by have := HK1.out; omega⟩, ⟨bw HB.out⟩⟩
   rw [if_neg c10] at H
   have c10b0 : decide (x7_1 < 0) = false := decide_eq_false c10
   clear c10
   by_cases c12 : 0 ≤ x7_1
   rotate_left
   ·rw [if_neg c12] at H
    exact absurd H (by simp)
   rw [if_pos c12] at H
   have c12b0 : decide (0 ≤ x7_1) = true := decide_eq_true c12
   clear c12
   by_cases c13 : x7_1 < (l0.length : Int)
   rotate_left
   ·rw [if_neg c13] at H
    exact absurd H (by simp)
   rw [if_pos c13] at H
   have c13b0 : decide (x7_1 < (l0.length : Int)) = true := decide_eq_true c13
   clear c13
   by_cases c14 : ((rd_T89 l0 x8_1).f3) < ((rd_T89 l0 x7_1).f3)
   ·rw [if_pos c14] at H
    have c14b0 : decide (((rd_T89 l0 x8_1).f3) < ((rd_T89 l0 x7_1).f3)) = true := decide_eq_true c14
    clear c14
    have H' := Aside0.mk H
    clear H
    try go_wp2
    have n0_ := Aside0.mk (below_drew1 HB.out)
    replace HB := n0_
    clear n0_
    have p254 : 0 ≤ (x8_1 : Int) := of_decide_eq_true (by first | (with_reducible assumption) | assumption)
    have q254 : x8_1 < (l0.length : Int) := of_decide_eq_true (by first | (with_reducible assumption) | assumption)
    obtain ⟨ad254, e254, hx254_0, hx254_1, hx254_2, hx254_3⟩ := at_T89 HR0.out x8_1 p254 q254
    have hw254_3 := hx254_3
    have hw254_2 := hx254_2
    have hw254_1 := hx254_1
    have hw254_0 := hx254_0
    cases e254
    replace hx254_0 := (HB.out.cell (World.block_lt_of_cell? w _ hx254_0)).trans hx254_0
    replace hx254_1 := (HB.out.cell (World.block_lt_of_cell? w _ hx254_1)).trans hx254_1
    replace hx254_2 := (HB.out.cell (World.block_lt_of_cell? w _ hx254_2)).trans hx254_2
    replace hx254_3 := (HB.out.cell (World.block_lt_of_cell? w _ hx254_3)).trans hx254_3
    replace p254 := eq_true p254
    replace q254 := eq_true q254
    have p255 : 0 ≤ (x8_1 : Int) := of_decide_eq_true (by first | (with_reducible assumption) | assumption)
    have q255 : x8_1 < (l0.length : Int) := of_decide_eq_true (by first | (with_reducible assumption) | assumption)
    obtain ⟨ad255, e255, hx255_0, hx255_1, hx255_2, hx255_3⟩ := at_T89 HR0.out x8_1 p255 q255
    have hw255_3 := hx255_3
    have hw255_2 := hx255_2
    have hw255_1 := hx255_1
    have hw255_0 := hx255_0
    obtain rfl : ad254 = ad255 := (by injection e255)
    replace hx255_0 := (HB.out.cell (World.block_lt_of_cell? w _ hx255_0)).trans hx255_0
    replace hx255_1 := (HB.out.cell (World.block_lt_of_cell? w _ hx255_1)).trans hx255_1
    replace hx255_2 := (HB.out.cell (World.block_lt_of_cell? w _ hx255_2)).trans hx255_2
    replace hx255_3 := (HB.out.cell (World.block_lt_of_cell? w _ hx255_3)).trans hx255_3
    replace p255 := eq_true p255
    replace q255 := eq_true q255
    have p256 : 0 ≤ (x7_1 : Int) := of_decide_eq_true (by first | (with_reducible assumption) | assumption)
    have q256 : x7_1 < (l0.length : Int) := of_decide_eq_true (by first | (with_reducible assumption) | assumption)
    obtain ⟨ad256, e256, hx256_0, hx256_1, hx256_2, hx256_3⟩ := at_T89 HR0.out x7_1 p256 q256
    have hw256_3 := hx256_3
    have hw256_2 := hx256_2
    have hw256_1 := hx256_1
    have hw256_0 := hx256_0
    obtain rfl : ad254 = ad256 := (by injection e256)
    replace hx256_0 := (HB.out.cell (World.block_lt_of_cell? w _ hx256_0)).trans hx256_0
    replace hx256_1 := (HB.out.cell (World.block_lt_of_cell? w _ hx256_1)).trans hx256_1
    replace hx256_2 := (HB.out.cell (World.block_lt_of_cell? w _ hx256_2)).trans hx256_2
    replace hx256_3 := (HB.out.cell (World.block_lt_of_cell? w _ hx256_3)).trans hx256_3
    replace p256 := eq_true p256
    replace q256 := eq_true q256
    refine start_ (n := 30) (S := fun w' => w'.cell? (ad254.add ((x8_1).toNat * 4)) = some (.int .i64 ((rd_T89 l0 x8_1).f0)) ∧ w'.cell? ⟨(ad254.add ((x8_1).toNat * 4)).block, (ad254.add ((x8_1).toNat * 4)).off + 1, none⟩ = some (.int .i64 ((rd_T89 l0 x8_1).f1)) ∧ w'.cell? ⟨(ad254.add ((x8_1).toNat * 4)).block, (ad254.add ((x8_1).toNat * 4)).off + 2, none⟩ = some (.int .i64 ((rd_T89 l0 x8_1).f2)) ∧ w'.cell? ⟨(ad254.add ((x8_1).toNat * 4)).block, (ad254.add ((x8_1).toNat * 4)).off + 3, none⟩ = some (.int .i64 ((rd_T89 l0 x8_1).f3)) ∧ w'.cell? (ad254.add ((x8_1).toNat * 4)) = some (.int .i64 ((rd_T89 l0 x8_1).f0)) ∧ w'.cell? ⟨(ad254.add ((x8_1).toNat * 4)).block, (ad254.add ((x8_1).toNat * 4)).off + 1, none⟩ = some (.int .i64 ((rd_T89 l0 x8_1).f1)) ∧ w'.cell? ⟨(ad254.add ((x8_1).toNat * 4)).block, (ad254.add ((x8_1).toNat * 4)).off + 2, none⟩ = some (.int .i64 ((rd_T89 l0 x8_1).f2)) ∧ w'.cell? ⟨(ad254.add ((x8_1).toNat * 4)).block, (ad254.add ((x8_1).toNat * 4)).off + 3, none⟩ = some (.int .i64 ((rd_T89 l0 x8_1).f3)) ∧ w'.cell? (ad254.add ((x7_1).toNat * 4)) = some (.int .i64 ((rd_T89 l0 x7_1).f0)) ∧ w'.cell? ⟨(ad254.add ((x7_1).toNat * 4)).block, (ad254.add ((x7_1).toNat * 4)).off + 1, none⟩ = some (.int .i64 ((rd_T89 l0 x7_1).f1)) ∧ w'.cell? ⟨(ad254.add ((x7_1).toNat * 4)).block, (ad254.add ((x7_1).toNat * 4)).off + 2, none⟩ = some (.int .i64 ((rd_T89 l0 x7_1).f2)) ∧ w'.cell? ⟨(ad254.add ((x7_1).toNat * 4)).block, (ad254.add ((x7_1).toNat * 4)).off + 3, none⟩ = some (.int .i64 ((rd_T89 l0 x7_1).f3))) (ds := []) q177_0 (by kernel_rfl) rfl rfl ⟨(bcl_ HB.out hw254_0 :), (bcl_ HB.out hw254_1 :), (bcl_ HB.out hw254_2 :), (bcl_ HB.out hw254_3 :), (bcl_ HB.out hw255_0 :), (bcl_ HB.out hw255_1 :), (bcl_ HB.out hw255_2 :), (bcl_ HB.out hw255_3 :), (bcl_ HB.out hw256_0 :), (bcl_ HB.out hw256_1 :), (bcl_ HB.out hw256_2 :), (bcl_ HB.out hw256_3 :)⟩ (fun hHeld => ?_); refine with_tabW spec_l5Next.tab5 spec_l5Next.bits5 (fun HT_ HW_ => ?_)
    generalize wr.drew = w15 at HB hx254_0 hx254_1 hx254_2 hx254_3 hx255_0 hx255_1 hx255_2 hx255_3 hx256_0 hx256_1 hx256_2 hx256_3 hHeld ⊢
    refine pup_ (i := 0) (N := some 15) HT_ rfl rfl (by kernel_rfl) (fun _ _ _ h => h) (Or.inl ⟨by rfl, by intro w'; go_simp; with_reducible rfl⟩) (by simp only [aq_]; rfl) ?_
    refine pup_ (i := 1) (N := some 16) HT_ rfl rfl (by kernel_rfl) (fun _ _ _ h => h) (Or.inl ⟨by rfl, by intro w'; go_simp; with_reducible rfl⟩) (by simp only [aq_]; rfl) ?_
    refine one_ (i := 2) (N := some 17) q177_3 rfl rfl (one_of HT_.out (by kernel_rfl)) (by decide) (fun K hK => ?_)
    refine goes_ Try.func155 (by kernel_rfl) rfl #[.slice A1 l1.length c1, .int .i64 x8_1] (by rfl) rfl rfl (by (try simp only [mA_]); first | done | rfl | (simp only [List.length_drop, List.length_take]; rfl)) ?_
    with_reducible refine (spec_l1Has.calls k1 _ _ l1 x8_1 false _ ?side1 ?side2 A5.out).mono ?_
    (case side1 => first | exact bC HR1.out HB.out | exact Kd.C_below HR1.out HB.out)
    (case side2 => exact HC1.out)
    rintro e w' ⟨rfl, ⟨nd, rfl⟩⟩
    refine ⟨_, rfl, ?_⟩
    refine hK.out _ _ ⟨(bcl_ HB.out hw254_0 :), (bcl_ HB.out hw254_1 :), (bcl_ HB.out hw254_2 :), (bcl_ HB.out hw254_3 :), (bcl_ HB.out hw255_0 :), (bcl_ HB.out hw255_1 :), (bcl_ HB.out hw255_2 :), (bcl_ HB.out hw255_3 :), (bcl_ HB.out hw256_0 :), (bcl_ HB.out hw256_1 :), (bcl_ HB.out hw256_2 :), (bcl_ HB.out hw256_3 :)⟩ (fun hHeld => ?_)
    clear hK K
    refine norm_ (a' := ?_) ?_ ?_
    rotate_left
    ·show Act.put _ (some 17) _ = _
     simp only [aq_]
     rfl
    refine pup_ (i := 3) (N := some 18) HT_ rfl rfl (by kernel_rfl) (fun _ _ _ h => h) (Or.inl ⟨by rfl, by intro w'; go_simp; with_reducible rfl⟩) (by simp only [aq_]; rfl) ?_
    refine pup_ (i := 4) (N := some 19) HT_ rfl rfl (by kernel_rfl) (fun _ _ _ h => h) (Or.inl ⟨by rfl, by intro w'; go_simp; with_reducible rfl⟩) (by simp only [aq_]; rfl) ?_
    refine pup_ (i := 5) (N := some 20) HT_ rfl rfl (by kernel_rfl) (fun _ _ _ h => h) (Or.inl ⟨by rfl, by intro w'; go_simp; with_reducible rfl⟩) (by simp only [aq_]; rfl) ?_
    refine pup_ (i := 6) (N := some 21) HT_ rfl rfl (by kernel_rfl) (fun _ _ _ h => h) (Or.inl ⟨by rfl, by intro w'; go_simp; with_reducible rfl⟩) (by simp only [aq_]; rfl) ?_
    refine pup_ (i := 7) (N := some 22) HT_ rfl rfl (by kernel_rfl) (fun _ _ _ h => h) (Or.inl ⟨by rfl, by intro w'; go_simp; with_reducible rfl⟩) (by simp only [aq_]; rfl) ?_
    refine pup_ (i := 8) (N := some 23) HT_ rfl rfl (by kernel_rfl) (fun _ _ _ h => h) (Or.inl ⟨by rfl, by intro w'; go_simp; with_reducible rfl⟩) (by simp only [aq_]; rfl) ?_
    refine pup_ (i := 10) (N := some 25) HT_ rfl rfl (by kernel_rfl) (fun _ _ _ h => h) (Or.inl ⟨by rfl, by intro w'; go_simp; with_reducible rfl⟩) (by simp only [aq_]; rfl) ?_
    refine take_ (i := 9) (N := some 24) (v := ?_) (a' := ?_) q177_11 rfl rfl (take_ofW HT_.out HW_.out (by kernel_rfl)) (fun _ _ _ h => h) (Or.inl ⟨by rfl, ?_⟩) hHeld ?_ ?_
    rotate_left
    ·rintro w' ⟨s0, s1, s2, s3, s4, s5, s6, s7, s8, s9, s10, s11⟩
     go_simp
     with_reducible rfl
    rotate_left
    ·simp only [aq_]
     rfl
    refine pup_ (i := 11) (N := some 26) HT_ rfl rfl (by kernel_rfl) (fun _ _ _ h => h) (Or.inl ⟨by rfl, by intro w'; go_simp; with_reducible rfl⟩) (by simp only [aq_]; rfl) ?_
    refine pup_ (i := 12) (N := some 27) HT_ rfl rfl (by kernel_rfl) (fun _ _ _ h => h) (Or.inl ⟨by rfl, by intro w'; go_simp; with_reducible rfl⟩) (by simp only [aq_]; rfl) ?_
    refine pup_ (i := 13) (N := some 28) HT_ rfl rfl (by kernel_rfl) (fun _ _ _ h => h) (Or.inl ⟨by rfl, by intro w'; go_simp; with_reducible rfl⟩) (by simp only [aq_]; rfl) ?_
    refine pup_ (i := 14) (N := some 29) HT_ rfl rfl (by kernel_rfl) (fun _ _ _ h => h) (Or.inl ⟨by rfl, by intro w'; go_simp; with_reducible rfl⟩) (by simp only [aq_]; rfl) ?_
    refine pup_ (i := 15) (N := some 30) HT_ rfl rfl (by kernel_rfl) (fun _ _ _ h => h) (Or.inl ⟨by rfl, by intro w'; go_simp; with_reducible rfl⟩) (by simp only [aq_]; rfl) ?_
    refine pup_ (i := 16) (N := some 31) HT_ rfl rfl (by kernel_rfl) (fun _ _ _ h => h) (Or.inl ⟨by rfl, by intro w'; go_simp; with_reducible rfl⟩) (by simp only [aq_]; rfl) ?_
    refine pup_ (i := 17) (N := some 32) HT_ rfl rfl (by kernel_rfl) (fun _ _ _ h => h) (Or.inl ⟨by rfl, by intro w'; go_simp; with_reducible rfl⟩) (by simp only [aq_]; rfl) ?_
    refine pup_ (i := 18) (N := some 33) HT_ rfl rfl (by kernel_rfl) (fun _ _ _ h => h) (Or.inl ⟨by rfl, by intro w'; go_simp; with_reducible rfl⟩) (by simp only [aq_]; rfl) ?_
    refine pup_ (i := 19) (N := some 34) HT_ rfl rfl (by kernel_rfl) (fun _ _ _ h => h) (Or.inl ⟨by rfl, by intro w'; go_simp; with_reducible rfl⟩) (by simp only [aq_]; rfl) ?_
    refine pup_ (i := 20) (N := some 35) HT_ rfl rfl (by kernel_rfl) (fun _ _ _ h => h) (Or.inl ⟨by rfl, by intro w'; go_simp; with_reducible rfl⟩) (by simp only [aq_]; rfl) ?_
    refine pup_ (i := 22) (N := some 37) HT_ rfl rfl (by kernel_rfl) (fun _ _ _ h => h) (Or.inl ⟨by rfl, by intro w'; go_simp; with_reducible rfl⟩) (by simp only [aq_]; rfl) ?_
    refine pup_ (i := 23) (N := some 38) HT_ rfl rfl (by kernel_rfl) (fun _ _ _ h => h) (Or.inl ⟨by rfl, by intro w'; go_simp; with_reducible rfl⟩) (by simp only [aq_]; rfl) ?_
    refine pup_ (i := 24) (N := some 39) HT_ rfl rfl (by kernel_rfl) (fun _ _ _ h => h) (Or.inl ⟨by rfl, by intro w'; go_simp; with_reducible rfl⟩) (by simp only [aq_]; rfl) ?_
    refine pup_ (i := 25) (N := some 40) HT_ rfl rfl (by kernel_rfl) (fun _ _ _ h => h) (Or.inl ⟨by rfl, by intro w'; go_simp; with_reducible rfl⟩) (by simp only [aq_]; rfl) ?_
    refine take_ (i := 21) (N := some 36) (v := ?_) (a' := ?_) q177_26 rfl rfl (take_ofW HT_.out HW_.out (by kernel_rfl)) (fun _ _ _ h => h) (Or.inl ⟨by rfl, ?_⟩) hHeld ?_ ?_
    rotate_left
    ·rintro w' ⟨s0, s1, s2, s3, s4, s5, s6, s7, s8, s9, s10, s11⟩
     go_simp
     with_reducible rfl
    rotate_left
    ·simp only [aq_]
     rfl
    refine take_ (i := 26) (N := some 41) (v := ?_) (a' := ?_) q177_27 rfl rfl (take_ofW HT_.out HW_.out (by kernel_rfl)) (fun _ _ _ h => h) (Or.inl ⟨by rfl, ?_⟩) hHeld ?_ ?_
    rotate_left
    ·rintro w' ⟨s0, s1, s2, s3, s4, s5, s6, s7, s8, s9, s10, s11⟩
     go_simp
     with_reducible rfl
    rotate_left
    ·simp only [aq_]
     rfl
    refine pup_ (i := 27) (N := some 42) HT_ rfl rfl (by kernel_rfl) (fun _ _ _ h => h) (Or.inl ⟨by rfl, by intro w'; go_simp; with_reducible rfl⟩) (by simp only [aq_]; rfl) ?_
    refine pup_ (i := 28) (N := some 43) HT_ rfl rfl (by kernel_rfl) (fun _ _ _ h => h) (Or.inl ⟨by rfl, by intro w'; go_simp; with_reducible rfl⟩) (by simp only [aq_]; rfl) ?_
    refine pup_ (i := 29) (N := some 44) HT_ rfl rfl (by kernel_rfl) (fun _ _ _ h => h) (Or.inl ⟨by rfl, by intro w'; go_simp; with_reducible rfl⟩) (by simp only [aq_]; rfl) ?_
    refine done_ (done_of HT_.out (by kernel_rfl)) ?_
    try go_wp2
    go_roundg k1
    case measure => have := HK1.out; omega
    case rel => exact ⟨(x8_1), (wrap64 (x8_1 + 1)), (by first | rfl | (simp; done) | (simp [*]; done)), (by first | rfl | (simp; done) | (simp [*]; done)), H', ⟨by have := HK1.out; omega⟩, ⟨bw HB.out⟩⟩
   rw [if_neg c14] at H
   have c14b0 : decide (((rd_T89 l0 x8_1).f3) < ((rd_T89 l0 x7_1).f3)) = false := decide_eq_false c14
   clear c14
   have H' := Aside0.mk H
   clear H
   try go_wp2
   have n0_ := Aside0.mk (below_drew1 HB.out)
   replace HB := n0_
   clear n0_
   have p254 : 0 ≤ (x8_1 : Int) := of_decide_eq_true (by first | (with_reducible assumption) | assumption)
   have q254 : x8_1 < (l0.length : Int) := of_decide_eq_true (by first | (with_reducible assumption) | assumption)
   obtain ⟨ad254, e254, hx254_0, hx254_1, hx254_2, hx254_3⟩ := at_T89 HR0.out x8_1 p254 q254
   have hw254_3 := hx254_3
   have hw254_2 := hx254_2
   have hw254_1 := hx254_1
   have hw254_0 := hx254_0
   cases e254
   replace hx254_0 := (HB.out.cell (World.block_lt_of_cell? w _ hx254_0)).trans hx254_0
   replace hx254_1 := (HB.out.cell (World.block_lt_of_cell? w _ hx254_1)).trans hx254_1
   replace hx254_2 := (HB.out.cell (World.block_lt_of_cell? w _ hx254_2)).trans hx254_2
   replace hx254_3 := (HB.out.cell (World.block_lt_of_cell? w _ hx254_3)).trans hx254_3
   replace p254 := eq_true p254
   replace q254 := eq_true q254
   have p255 : 0 ≤ (x8_1 : Int) := of_decide_eq_true (by first | (with_reducible assumption) | assumption)
   have q255 : x8_1 < (l0.length : Int) := of_decide_eq_true (by first | (with_reducible assumption) | assumption)
   obtain ⟨ad255, e255, hx255_0, hx255_1, hx255_2, hx255_3⟩ := at_T89 HR0.out x8_1 p255 q255
   have hw255_3 := hx255_3
   have hw255_2 := hx255_2
   have hw255_1 := hx255_1
   have hw255_0 := hx255_0
   obtain rfl : ad254 = ad255 := (by injection e255)
   replace hx255_0 := (HB.out.cell (World.block_lt_of_cell? w _ hx255_0)).trans hx255_0
   replace hx255_1 := (HB.out.cell (World.block_lt_of_cell? w _ hx255_1)).trans hx255_1
   replace hx255_2 := (HB.out.cell (World.block_lt_of_cell? w _ hx255_2)).trans hx255_2
   replace hx255_3 := (HB.out.cell (World.block_lt_of_cell? w _ hx255_3)).trans hx255_3
   replace p255 := eq_true p255
   replace q255 := eq_true q255
   have p256 : 0 ≤ (x7_1 : Int) := of_decide_eq_true (by first | (with_reducible assumption) | assumption)
   have q256 : x7_1 < (l0.length : Int) := of_decide_eq_true (by first | (with_reducible assumption) | assumption)
   obtain ⟨ad256, e256, hx256_0, hx256_1, hx256_2, hx256_3⟩ := at_T89 HR0.out x7_1 p256 q256
   have hw256_3 := hx256_3
   have hw256_2 := hx256_2
   have hw256_1 := hx256_1
   have hw256_0 := hx256_0
   obtain rfl : ad254 = ad256 := (by injection e256)
   replace hx256_0 := (HB.out.cell (World.block_lt_of_cell? w _ hx256_0)).trans hx256_0
   replace hx256_1 := (HB.out.cell (World.block_lt_of_cell? w _ hx256_1)).trans hx256_1
   replace hx256_2 := (HB.out.cell (World.block_lt_of_cell? w _ hx256_2)).trans hx256_2
   replace hx256_3 := (HB.out.cell (World.block_lt_of_cell? w _ hx256_3)).trans hx256_3
   replace p256 := eq_true p256
   replace q256 := eq_true q256
   refine start_ (n := 30) (S := fun w' => w'.cell? (ad254.add ((x8_1).toNat * 4)) = some (.int .i64 ((rd_T89 l0 x8_1).f0)) ∧ w'.cell? ⟨(ad254.add ((x8_1).toNat * 4)).block, (ad254.add ((x8_1).toNat * 4)).off + 1, none⟩ = some (.int .i64 ((rd_T89 l0 x8_1).f1)) ∧ w'.cell? ⟨(ad254.add ((x8_1).toNat * 4)).block, (ad254.add ((x8_1).toNat * 4)).off + 2, none⟩ = some (.int .i64 ((rd_T89 l0 x8_1).f2)) ∧ w'.cell? ⟨(ad254.add ((x8_1).toNat * 4)).block, (ad254.add ((x8_1).toNat * 4)).off + 3, none⟩ = some (.int .i64 ((rd_T89 l0 x8_1).f3)) ∧ w'.cell? (ad254.add ((x8_1).toNat * 4)) = some (.int .i64 ((rd_T89 l0 x8_1).f0)) ∧ w'.cell? ⟨(ad254.add ((x8_1).toNat * 4)).block, (ad254.add ((x8_1).toNat * 4)).off + 1, none⟩ = some (.int .i64 ((rd_T89 l0 x8_1).f1)) ∧ w'.cell? ⟨(ad254.add ((x8_1).toNat * 4)).block, (ad254.add ((x8_1).toNat * 4)).off + 2, none⟩ = some (.int .i64 ((rd_T89 l0 x8_1).f2)) ∧ w'.cell? ⟨(ad254.add ((x8_1).toNat * 4)).block, (ad254.add ((x8_1).toNat * 4)).off + 3, none⟩ = some (.int .i64 ((rd_T89 l0 x8_1).f3)) ∧ w'.cell? (ad254.add ((x7_1).toNat * 4)) = some (.int .i64 ((rd_T89 l0 x7_1).f0)) ∧ w'.cell? ⟨(ad254.add ((x7_1).toNat * 4)).block, (ad254.add ((x7_1).toNat * 4)).off + 1, none⟩ = some (.int .i64 ((rd_T89 l0 x7_1).f1)) ∧ w'.cell? ⟨(ad254.add ((x7_1).toNat * 4)).block, (ad254.add ((x7_1).toNat * 4)).off + 2, none⟩ = some (.int .i64 ((rd_T89 l0 x7_1).f2)) ∧ w'.cell? ⟨(ad254.add ((x7_1).toNat * 4)).block, (ad254.add ((x7_1).toNat * 4)).off + 3, none⟩ = some (.int .i64 ((rd_T89 l0 x7_1).f3))) (ds := []) q177_0 (by kernel_rfl) rfl rfl ⟨(bcl_ HB.out hw254_0 :), (bcl_ HB.out hw254_1 :), (bcl_ HB.out hw254_2 :), (bcl_ HB.out hw254_3 :), (bcl_ HB.out hw255_0 :), (bcl_ HB.out hw255_1 :), (bcl_ HB.out hw255_2 :), (bcl_ HB.out hw255_3 :), (bcl_ HB.out hw256_0 :), (bcl_ HB.out hw256_1 :), (bcl_ HB.out hw256_2 :), (bcl_ HB.out hw256_3 :)⟩ (fun hHeld => ?_); refine with_tabW spec_l5Next.tab5 spec_l5Next.bits5 (fun HT_ HW_ => ?_)
   generalize wr.drew = w16 at HB hx254_0 hx254_1 hx254_2 hx254_3 hx255_0 hx255_1 hx255_2 hx255_3 hx256_0 hx256_1 hx256_2 hx256_3 hHeld ⊢
   refine pup_ (i := 0) (N := some 15) HT_ rfl rfl (by kernel_rfl) (fun _ _ _ h => h) (Or.inl ⟨by rfl, by intro w'; go_simp; with_reducible rfl⟩) (by simp only [aq_]; rfl) ?_
   refine pup_ (i := 1) (N := some 16) HT_ rfl rfl (by kernel_rfl) (fun _ _ _ h => h) (Or.inl ⟨by rfl, by intro w'; go_simp; with_reducible rfl⟩) (by simp only [aq_]; rfl) ?_
   refine one_ (i := 2) (N := some 17) q177_3 rfl rfl (one_of HT_.out (by kernel_rfl)) (by decide) (fun K hK => ?_)
   refine goes_ Try.func155 (by kernel_rfl) rfl #[.slice A1 l1.length c1, .int .i64 x8_1] (by rfl) rfl rfl (by (try simp only [mA_]); first | done | rfl | (simp only [List.length_drop, List.length_take]; rfl)) ?_
   with_reducible refine (spec_l1Has.calls k1 _ _ l1 x8_1 false _ ?side1 ?side2 A5.out).mono ?_
   (case side1 => first | exact bC HR1.out HB.out | exact Kd.C_below HR1.out HB.out)
   (case side2 => exact HC1.out)
   rintro e w' ⟨rfl, ⟨nd, rfl⟩⟩
   refine ⟨_, rfl, ?_⟩
   refine hK.out _ _ ⟨(bcl_ HB.out hw254_0 :), (bcl_ HB.out hw254_1 :), (bcl_ HB.out hw254_2 :), (bcl_ HB.out hw254_3 :), (bcl_ HB.out hw255_0 :), (bcl_ HB.out hw255_1 :), (bcl_ HB.out hw255_2 :), (bcl_ HB.out hw255_3 :), (bcl_ HB.out hw256_0 :), (bcl_ HB.out hw256_1 :), (bcl_ HB.out hw256_2 :), (bcl_ HB.out hw256_3 :)⟩ (fun hHeld => ?_)
   clear hK K
   refine norm_ (a' := ?_) ?_ ?_
   rotate_left
   ·show Act.put _ (some 17) _ = _
    simp only [aq_]
    rfl
   refine pup_ (i := 3) (N := some 18) HT_ rfl rfl (by kernel_rfl) (fun _ _ _ h => h) (Or.inl ⟨by rfl, by intro w'; go_simp; with_reducible rfl⟩) (by simp only [aq_]; rfl) ?_
   refine pup_ (i := 4) (N := some 19) HT_ rfl rfl (by kernel_rfl) (fun _ _ _ h => h) (Or.inl ⟨by rfl, by intro w'; go_simp; with_reducible rfl⟩) (by simp only [aq_]; rfl) ?_
   refine pup_ (i := 5) (N := some 20) HT_ rfl rfl (by kernel_rfl) (fun _ _ _ h => h) (Or.inl ⟨by rfl, by intro w'; go_simp; with_reducible rfl⟩) (by simp only [aq_]; rfl) ?_
   refine pup_ (i := 6) (N := some 21) HT_ rfl rfl (by kernel_rfl) (fun _ _ _ h => h) (Or.inl ⟨by rfl, by intro w'; go_simp; with_reducible rfl⟩) (by simp only [aq_]; rfl) ?_
   refine pup_ (i := 7) (N := some 22) HT_ rfl rfl (by kernel_rfl) (fun _ _ _ h => h) (Or.inl ⟨by rfl, by intro w'; go_simp; with_reducible rfl⟩) (by simp only [aq_]; rfl) ?_
   refine pup_ (i := 8) (N := some 23) HT_ rfl rfl (by kernel_rfl) (fun _ _ _ h => h) (Or.inl ⟨by rfl, by intro w'; go_simp; with_reducible rfl⟩) (by simp only [aq_]; rfl) ?_
   refine pup_ (i := 10) (N := some 25) HT_ rfl rfl (by kernel_rfl) (fun _ _ _ h => h) (Or.inl ⟨by rfl, by intro w'; go_simp; with_reducible rfl⟩) (by simp only [aq_]; rfl) ?_
   refine take_ (i := 9) (N := some 24) (v := ?_) (a' := ?_) q177_11 rfl rfl (take_ofW HT_.out HW_.out (by kernel_rfl)) (fun _ _ _ h => h) (Or.inl ⟨by rfl, ?_⟩) hHeld ?_ ?_
   rotate_left
   ·rintro w' ⟨s0, s1, s2, s3, s4, s5, s6, s7, s8, s9, s10, s11⟩
    go_simp
    with_reducible rfl
   rotate_left
   ·simp only [aq_]
    rfl
   refine pup_ (i := 11) (N := some 26) HT_ rfl rfl (by kernel_rfl) (fun _ _ _ h => h) (Or.inl ⟨by rfl, by intro w'; go_simp; with_reducible rfl⟩) (by simp only [aq_]; rfl) ?_
   refine pup_ (i := 12) (N := some 27) HT_ rfl rfl (by kernel_rfl) (fun _ _ _ h => h) (Or.inl ⟨by rfl, by intro w'; go_simp; with_reducible rfl⟩) (by simp only [aq_]; rfl) ?_
   refine pup_ (i := 13) (N := some 28) HT_ rfl rfl (by kernel_rfl) (fun _ _ _ h => h) (Or.inl ⟨by rfl, by intro w'; go_simp; with_reducible rfl⟩) (by simp only [aq_]; rfl) ?_
   refine pup_ (i := 14) (N := some 29) HT_ rfl rfl (by kernel_rfl) (fun _ _ _ h => h) (Or.inl ⟨by rfl, by intro w'; go_simp; with_reducible rfl⟩) (by simp only [aq_]; rfl) ?_
   refine pup_ (i := 15) (N := some 30) HT_ rfl rfl (by kernel_rfl) (fun _ _ _ h => h) (Or.inl ⟨by rfl, by intro w'; go_simp; with_reducible rfl⟩) (by simp only [aq_]; rfl) ?_
   refine pup_ (i := 16) (N := some 31) HT_ rfl rfl (by kernel_rfl) (fun _ _ _ h => h) (Or.inl ⟨by rfl, by intro w'; go_simp; with_reducible rfl⟩) (by simp only [aq_]; rfl) ?_
   refine pup_ (i := 17) (N := some 32) HT_ rfl rfl (by kernel_rfl) (fun _ _ _ h => h) (Or.inl ⟨by rfl, by intro w'; go_simp; with_reducible rfl⟩) (by simp only [aq_]; rfl) ?_
   refine pup_ (i := 18) (N := some 33) HT_ rfl rfl (by kernel_rfl) (fun _ _ _ h => h) (Or.inl ⟨by rfl, by intro w'; go_simp; with_reducible rfl⟩) (by simp only [aq_]; rfl) ?_
   refine pup_ (i := 19) (N := some 34) HT_ rfl rfl (by kernel_rfl) (fun _ _ _ h => h) (Or.inl ⟨by rfl, by intro w'; go_simp; with_reducible rfl⟩) (by simp only [aq_]; rfl) ?_
   refine pup_ (i := 20) (N := some 35) HT_ rfl rfl (by kernel_rfl) (fun _ _ _ h => h) (Or.inl ⟨by rfl, by intro w'; go_simp; with_reducible rfl⟩) (by simp only [aq_]; rfl) ?_
   refine pup_ (i := 22) (N := some 37) HT_ rfl rfl (by kernel_rfl) (fun _ _ _ h => h) (Or.inl ⟨by rfl, by intro w'; go_simp; with_reducible rfl⟩) (by simp only [aq_]; rfl) ?_
   refine pup_ (i := 23) (N := some 38) HT_ rfl rfl (by kernel_rfl) (fun _ _ _ h => h) (Or.inl ⟨by rfl, by intro w'; go_simp; with_reducible rfl⟩) (by simp only [aq_]; rfl) ?_
   refine pup_ (i := 24) (N := some 39) HT_ rfl rfl (by kernel_rfl) (fun _ _ _ h => h) (Or.inl ⟨by rfl, by intro w'; go_simp; with_reducible rfl⟩) (by simp only [aq_]; rfl) ?_
   refine pup_ (i := 25) (N := some 40) HT_ rfl rfl (by kernel_rfl) (fun _ _ _ h => h) (Or.inl ⟨by rfl, by intro w'; go_simp; with_reducible rfl⟩) (by simp only [aq_]; rfl) ?_
   refine take_ (i := 21) (N := some 36) (v := ?_) (a' := ?_) q177_26 rfl rfl (take_ofW HT_.out HW_.out (by kernel_rfl)) (fun _ _ _ h => h) (Or.inl ⟨by rfl, ?_⟩) hHeld ?_ ?_
   rotate_left
   ·rintro w' ⟨s0, s1, s2, s3, s4, s5, s6, s7, s8, s9, s10, s11⟩
    go_simp
    with_reducible rfl
   rotate_left
   ·simp only [aq_]
    rfl
   refine take_ (i := 26) (N := some 41) (v := ?_) (a' := ?_) q177_27 rfl rfl (take_ofW HT_.out HW_.out (by kernel_rfl)) (fun _ _ _ h => h) (Or.inl ⟨by rfl, ?_⟩) hHeld ?_ ?_
   rotate_left
   ·rintro w' ⟨s0, s1, s2, s3, s4, s5, s6, s7, s8, s9, s10, s11⟩
    go_simp
    with_reducible rfl
   rotate_left
   ·simp only [aq_]
    rfl
   refine pup_ (i := 27) (N := some 42) HT_ rfl rfl (by kernel_rfl) (fun _ _ _ h => h) (Or.inl ⟨by rfl, by intro w'; go_simp; with_reducible rfl⟩) (by simp only [aq_]; rfl) ?_
   refine pup_ (i := 28) (N := some 43) HT_ rfl rfl (by kernel_rfl) (fun _ _ _ h => h) (Or.inl ⟨by rfl, by intro w'; go_simp; with_reducible rfl⟩) (by simp only [aq_]; rfl) ?_
   refine pup_ (i := 29) (N := some 44) HT_ rfl rfl (by kernel_rfl) (fun _ _ _ h => h) (Or.inl ⟨by rfl, by intro w'; go_simp; with_reducible rfl⟩) (by simp only [aq_]; rfl) ?_
   refine done_ (done_of HT_.out (by kernel_rfl)) ?_
   try go_wp2
   go_roundg k1
   case measure => have := HK1.out; omega
   case rel => exact ⟨(x7_1), (wrap64 (x8_1 + 1)), (by first | rfl | (simp; done) | (simp [*]; done)), (by first | rfl | (simp; done) | (simp [*]; done)), H', ⟨by have := HK1.out; omega⟩, ⟨bw HB.out⟩⟩

/-! ### spec_l5Greedy: function 144 -/
def spec_l5Greedy.l0 : Nat → List (S89) → List Int → Int → Option (List Int)
 | 0, _, _, _ => none
 | k + 1, x0, x3, x4 => if (x3.length : Int) < (x0.length : Int) then ((spec_l5Next.f k x0 x3 x4).bind fun t260 => (if t260 < 0 then (spec_l5Greedy.l0 k x0 x3 (wrap64 (x4 + 1))) else (if x3.length < 17592186044416 then (if 0 ≤ t260 then (if t260 < (x0.length : Int) then (spec_l5Greedy.l0 k x0 (x3 ++ [t260]) (wrap64 (x4 + ((rd_T89 x0 t260).f0)))) else (none)) else (none)) else (none)))) else (some x3)
def spec_l5Greedy.f (k : Nat) (l0 : List (S89)) : Option (List Int) := spec_l5Greedy.l0 k l0 (([] : List Int)) 0
theorem spec_l5Greedy.mono_l : ∀ k, (∀ y0 y1 y2, LeO (spec_l5Greedy.l0 k y0 y1 y2) (spec_l5Greedy.l0 (k + 1) y0 y1 y2))
 | 0 => fun _ _ _ r h => by simp [spec_l5Greedy.l0] at h
 | k + 1 => by
  have ih0 := spec_l5Greedy.mono_l k
  ·intro y0 y1 y2
   unfold spec_l5Greedy.l0
   repeat' first
   | (with_reducible exact ih0 _ _ _)
   | (with_reducible exact spec_l5Next.mono _ _ _ _)
   | (with_reducible exact LeO.refl _)
   | (with_reducible exact LeO.none _)
   | (with_reducible refine LeO.ite ?_ ?_)
   | (with_reducible refine LeO.bind ?_ (fun _ => ?_))
   | exact ih0 _ _ _
   | exact spec_l5Next.mono _ _ _ _
   | exact LeO.none _
   | refine LeO.ite ?_ ?_
   | refine LeO.bind ?_ (fun _ => ?_)
theorem spec_l5Greedy.mono : ∀ a0 k, LeO (spec_l5Greedy.f k a0) (spec_l5Greedy.f (k + 1) a0) := by
 intro a0 k
 have ih0 := spec_l5Greedy.mono_l k
 unfold spec_l5Greedy.f
 repeat' first
   | (with_reducible exact ih0 _ _ _)
   | (with_reducible exact spec_l5Next.mono _ _ _ _)
   | (with_reducible exact LeO.refl _)
   | (with_reducible exact LeO.none _)
   | (with_reducible refine LeO.ite ?_ ?_)
   | (with_reducible refine LeO.bind ?_ (fun _ => ?_))
   | exact ih0 _ _ _
   | exact spec_l5Next.mono _ _ _ _
   | exact LeO.none _
   | refine LeO.ite ?_ ?_
   | refine LeO.bind ?_ (fun _ => ?_)
set_option maxHeartbeats 8000000 in
set_option maxRecDepth 100000 in
theorem spec_l5Greedy.calls (k : Nat) (A0 : Option Addr) (c0 : Nat) (l0 : List (S89)) (r : List Int) (w : World) (hr0 : Kd.C k89 w A0 l0.length l0) (hc0 : l0.length ≤ c0) (h : spec_l5Greedy.f k l0 = some r) :
  Calls Try.prog 144 #[.slice A0 l0.length c0] w fun e w' => ∃ v0_ : Value, e = .returned (v0_) ∧ Kd.R (Kd.int .i64) 3 w' w.heap.size (fun _ => True) v0_ r ∧ Below w.heap.size w w' := by
 have HR0 := Aside0.mk hr0
 have HC0 := Aside0.mk hc0
 clear hr0 hc0
 have HB := Aside0.mk (Below.refl w.heap.size w)
 have H : (spec_l5Greedy.l0 k l0 (([] : List Int)) 0) = some r := h
 clear h
 obtain ⟨y257, hy257⟩ : ∃ y_ : List Int, y_ = (([] : List Int)) := ⟨_, rfl⟩
 replace H : (spec_l5Greedy.l0 k l0 y257 0) = some r := by first | (rw [hy257]; with_reducible exact H) | (have H2_ := (Option.bind_some _ _).symm.trans H; rw [hy257]; with_reducible exact H2_) | (have H2_ := (Option.bind_some _ _).symm.trans H; with_reducible exact H2_) | with_reducible exact H | (rw [hy257]; exact H) | exact H
 have Ny257 := Aside0.mk hy257
 clear hy257
 have H' := Aside0.mk H
 clear H
 go_enter Try.func144, Try.ntmps144
 go_wp2_with (first | ((with_reducible refine gate_dst (N := 6) rfl ?_); refine Kd.R_lit (Kd.int .i64) _ 3 ?hg (N := 6) ?hd (xs := ([] : List Int)) (inner := []) (ok := fun _ => True) (okp := fun _ => True) ?hr ?hp (fun _ hk => hk) trivial (Below.refl _ _) (Nat.le_refl _) (by simp) ?_; (case hd => rfl); (case hg => rfl); (case hr => first | (go_simp; done) | (go_simp; rfl)); (case hp => exact (Reps.none _ _)); intro v258 w2 ho3 hb hg_ hnew_; clear hg_ hnew_; (first | rw [← Ny257.out] at ho3 | (simp only [Int.reduceToNat] at ho3; rw [← Ny257.out] at ho3)); have n0_ := Aside0.mk (Kd.R_lower ho3 (below_size (bw HB.out))); have n1_ := Aside0.mk (below_step (bw HB.out) hb); have HO259 := n0_; replace HB := n1_; clear n0_ n1_; clear hb ho3))
 go_loopg [3, 4] k (fun kq v3 v4 w' => ∃ (x3_1 : List Int) (x4_1 : Int), v4 = .int .i64 x4_1 ∧ Aside0 (spec_l5Greedy.l0 kq l0 x3_1 x4_1 = some r) ∧ Aside0 (kq ≤ k) ∧ Aside0 (Kd.R (Kd.int .i64) 3 w' w.heap.size (fun _ => True) v3 x3_1) ∧ Aside0 (Below w.heap.size w w'))
 case atStart => exact ⟨(y257), (0), (by first | rfl | (simp; done) | (simp [*]; done)), H', ⟨Nat.le_refl _⟩, ⟨bR HO259.out⟩, ⟨bw HB.out⟩⟩
 case round =>
  clear H'
  try clear c1
  try clear p2
  obtain ⟨x3_1, x4_1, rfl, HA, HK1, HO_3, HB⟩ := hrel
  cases gk with
  | zero => exact absurd HA.out (by simp [spec_l5Greedy.l0])
  | succ k1 =>
   have H := HA.out
   clear HA
   simp only [spec_l5Greedy.l0] at H
   by_cases c4 : (x3_1.length : Int) < (l0.length : Int)
   rotate_left
   ·rw [if_neg c4] at H
    have c4b0 : decide ((x3_1.length : Int) < (l0.length : Int)) = false := decide_eq_false c4
    have c4b1 : decide (x3_1.length < l0.length) = false := decide_eq_false (fun h => c4 (Int.ofNat_lt.mpr h))
    clear c4
    obtain rfl := Option.some.inj H
    obtain ⟨Ao15, co15, eo15⟩ := Kd.R_slice HO_3.out
    subst eo15
    go_wp2
    go_ret
    exact ⟨_, by first | rfl | (simp [errW_none, errW_some] <;> rfl) | (simp [*, errW_none, errW_some] <;> rfl), by (with_reducible repeat (first | apply Kd.R_alloc | apply Kd.R_drewN | apply Kd.R_drew)); exact HO_3.out, bw HB.out⟩
   rw [if_pos c4] at H
   have c4b0 : decide ((x3_1.length : Int) < (l0.length : Int)) = true := decide_eq_true c4
   have c4b1 : decide (x3_1.length < l0.length) = true := decide_eq_true (Int.ofNat_lt.mp c4)
   clear c4
   replace H := Option.bind_eq_some_iff.mp H
   obtain ⟨t260, A50, H⟩ := H
   replace H : (if t260 < 0 then (spec_l5Greedy.l0 k1 l0 x3_1 (wrap64 (x4_1 + 1))) else (if x3_1.length < 17592186044416 then (if 0 ≤ t260 then (if t260 < (l0.length : Int) then (spec_l5Greedy.l0 k1 l0 (x3_1 ++ [t260]) (wrap64 (x4_1 + ((rd_T89 l0 t260).f0)))) else (none)) else (none)) else (none))) = some r := H
   have A5 := Aside0.mk A50
   clear A50
   by_cases c6 : t260 < 0
   ·rw [if_pos c6] at H
    have c6b0 : decide (t260 < 0) = true := decide_eq_true c6
    clear c6
    have H' := Aside0.mk H
    clear H
    obtain ⟨Ao7, co7, eo7⟩ := Kd.R_slice HO_3.out
    subst eo7
    go_wp2_with (first | ((with_reducible refine gate_callee (f := 177) rfl ?_); refine goesL_ (some 15) rfl rfl Try.func177 (by kernel_rfl) rfl #[.slice A0 l0.length c0, .slice Ao7 x3_1.length co7, .int .i64 x4_1] rfl (by (try simp only [mA_]); first | done | rfl | (simp only [List.length_drop, List.length_take]; rfl)) ?_; (with_reducible refine (spec_l5Next.calls k1 _ _ l0 _ _ x3_1 x4_1 t260 _ ?side1 ?side2 ?side3 ?side4 A5.out).mono ?_); (case side1 => first | exact bC HR0.out HB.out | exact Kd.C_below HR0.out HB.out); (case side2 => exact HC0.out); (case side3 => repeat (first | exact (Kd.R_reads' HO_3.out).2.2 | (with_reducible refine Kd.C_alloc ?_ _) | (with_reducible refine Kd.C_drewN ?_ _) | (with_reducible refine Kd.C_drew ?_))); (case side4 => exact (Kd.R_reads' HO_3.out).2.1); rintro e w8 ⟨rfl, hb⟩; refine ⟨_, rfl, ?_⟩; have n0_ := Aside0.mk (Kd.R_below (bR HO_3.out) hb); have n1_ := Aside0.mk (below_step (bw HB.out) hb); replace HO_3 := n0_; replace HB := n1_; clear n0_ n1_; (try clear hb); (try clear hb2); (try clear hk); (try clear hi)))
    go_roundg k1
    case measure => have := HK1.out; omega
    case rel => exact ⟨(x3_1), (wrap64 (x4_1 + 1)), (by first | rfl | (simp; done) | (simp [*]; done)), H', ⟨by have := HK1.out; omega⟩, ⟨bR HO_3.out⟩, ⟨bw HB.out⟩⟩
   rw [if_neg c6] at H
   have c6b0 : decide (t260 < 0) = false := decide_eq_false c6
   clear c6
   by_cases c9 : x3_1.length < 17592186044416
   rotate_left
   ·rw [if_neg c9] at H
    exact absurd H (by simp)
   rw [if_pos c9] at H
   have LMc9 := Aside0.mk c9
   clear c9
   obtain ⟨y261, hy261⟩ : ∃ y_ : List Int, y_ = (x3_1 ++ [t260]) := ⟨_, rfl⟩
   replace H : (if 0 ≤ t260 then (if t260 < (l0.length : Int) then (spec_l5Greedy.l0 k1 l0 y261 (wrap64 (x4_1 + ((rd_T89 l0 t260).f0)))) else (none)) else (none)) = some r := by first | (rw [hy261]; with_reducible exact H) | (have H2_ := (Option.bind_some _ _).symm.trans H; rw [hy261]; with_reducible exact H2_) | (have H2_ := (Option.bind_some _ _).symm.trans H; with_reducible exact H2_) | with_reducible exact H | (rw [hy261]; exact H) | exact H
   have Ny261 := Aside0.mk hy261
   clear hy261
   by_cases c10 : 0 ≤ t260
   rotate_left
   ·rw [if_neg c10] at H
    exact absurd H (by simp)
   rw [if_pos c10] at H
   have c10b0 : decide (0 ≤ t260) = true := decide_eq_true c10
   clear c10
   by_cases c11 : t260 < (l0.length : Int)
   rotate_left
   ·rw [if_neg c11] at H
    exact absurd H (by simp)
   rw [if_pos c11] at H
   have c11b0 : decide (t260 < (l0.length : Int)) = true := decide_eq_true c11
   clear c11
   have H' := Aside0.mk H
   clear H
   obtain ⟨Ao12, co12, eo12⟩ := Kd.R_slice HO_3.out
   subst eo12
   go_wp2_with (first | ((with_reducible refine gate_callee (f := 177) rfl ?_); refine goesL_ (some 15) rfl rfl Try.func177 (by kernel_rfl) rfl #[.slice A0 l0.length c0, .slice Ao12 x3_1.length co12, .int .i64 x4_1] rfl (by (try simp only [mA_]); first | done | rfl | (simp only [List.length_drop, List.length_take]; rfl)) ?_; (with_reducible refine (spec_l5Next.calls k1 _ _ l0 _ _ x3_1 x4_1 t260 _ ?side1 ?side2 ?side3 ?side4 A5.out).mono ?_); (case side1 => first | exact bC HR0.out HB.out | exact Kd.C_below HR0.out HB.out); (case side2 => exact HC0.out); (case side3 => repeat (first | exact (Kd.R_reads' HO_3.out).2.2 | (with_reducible refine Kd.C_alloc ?_ _) | (with_reducible refine Kd.C_drewN ?_ _) | (with_reducible refine Kd.C_drew ?_))); (case side4 => exact (Kd.R_reads' HO_3.out).2.1); rintro e w13 ⟨rfl, hb⟩; refine ⟨_, rfl, ?_⟩; have n0_ := Aside0.mk (Kd.R_below (bR HO_3.out) hb); have n1_ := Aside0.mk (below_step (bw HB.out) hb); replace HO_3 := n0_; replace HB := n1_; clear n0_ n1_; (try clear hb); (try clear hb2); (try clear hk); (try clear hi)) | ((with_reducible refine gate_builtin (b := .append) (xs := #[.tmp 20, .tmp 22]) rfl ?_); at_builtin; refine Kd.R_append (Kd.int .i64) (w0 := w) w.heap.size rfl (.tmp 20) (.tmp 22) 23 3 (.int .i64 0) 8 rfl Try.underlying23 info3 rfl (by decide) (by omega) (.slice Ao12 x3_1.length co12) x3_1 t260 [.int .i64 t260] (fun _ => True) (fun _ => False) rfl rfl ?aP (fun _ hk => hk.elim) ?aF ?aO ?aB ?aS ?aL ?_; (case aP => exact rfl); (case aB => exact (bw HB.out)); (case aF => exact (fun _ _ => trivial)); (case aO => exact (bR HO_3.out)); (case aS => exact (below_size (bw HB.out))); (case aL => have := LMc9.out; omega); intro v262 w14 ho hb hg hat; rw [← Ny261.out] at ho; have n0_ := Aside0.mk (hb); have n1_ := Aside0.mk (ho); clear HO_3; replace HB := n0_; have HO263 := n1_; clear n0_ n1_; clear ho hb hg hat; have p264 : 0 ≤ (t260 : Int) := of_decide_eq_true (by first | (with_reducible assumption) | assumption); have q264 : t260 < (l0.length : Int) := of_decide_eq_true (by first | (with_reducible assumption) | assumption); obtain ⟨ad264, e264, hx264_0, hx264_1, hx264_2, hx264_3⟩ := at_T89 HR0.out t260 p264 q264; cases e264; replace hx264_0 := (HB.out.cell (World.block_lt_of_cell? w _ hx264_0)).trans hx264_0; replace hx264_1 := (HB.out.cell (World.block_lt_of_cell? w _ hx264_1)).trans hx264_1; replace hx264_2 := (HB.out.cell (World.block_lt_of_cell? w _ hx264_2)).trans hx264_2; replace hx264_3 := (HB.out.cell (World.block_lt_of_cell? w _ hx264_3)).trans hx264_3; replace p264 := eq_true p264; replace q264 := eq_true q264))
   go_roundg k1
   case measure => have := HK1.out; omega
   case rel => exact ⟨(y261), (wrap64 (x4_1 + ((rd_T89 l0 t260).f0))), (by first | rfl | (simp; done) | (simp [*]; done)), H', ⟨by have := HK1.out; omega⟩, ⟨bR HO263.out⟩, ⟨bw HB.out⟩⟩

/-! ### spec_l5Part: function 86 -/
mutual
def spec_l5Part.l0 : Nat → List (S89) → List Int → List Int → List Int → Int → Int → Option (List Int)
 | 0, _, _, _, _, _, _ => none
 | k + 1, x0, x3, x4, x5, x6, x7 => if x7 < (x3.length : Int) then (if 0 ≤ x7 then (if 0 ≤ (rd x3 x7) then (if (rd x3 x7) < (x5.length : Int) then (if (rd x3 x7) < (x0.length : Int) then (if 0 ≤ x6 then (if x6 < (x3.length : Int) then (if 0 ≤ (rd x3 x6) then (if (rd x3 x6) < (x5.length : Int) then (if (rd x3 x6) < (x0.length : Int) then (if (wrap64 ((rd x5 (rd x3 x7)) - ((rd_T89 x0 (rd x3 x7)).f3))) > (wrap64 ((rd x5 (rd x3 x6)) - ((rd_T89 x0 (rd x3 x6)).f3))) then (spec_l5Part.l0 k x0 x3 x4 x5 x7 (wrap64 (x7 + 1))) else (spec_l5Part.l0 k x0 x3 x4 x5 x6 (wrap64 (x7 + 1)))) else (none)) else (none)) else (none)) else (none)) else (none)) else (none)) else (none)) else (none)) else (none)) else (spec_l5Part.l1 k x3 x4 x5 x6 x6)
def spec_l5Part.l1 : Nat → List Int → List Int → List Int → Int → Int → Option (List Int)
 | 0, _, _, _, _, _ => none
 | k + 1, x3, x4, x5, x6, x8 => if x8 > 0 then (if 0 ≤ x8 then (if x8 < (x3.length : Int) then (if 0 ≤ (rd x3 x8) then (if (rd x3 x8) < (x4.length : Int) then (if 0 ≤ (wrap64 (x8 - 1)) then (if (wrap64 (x8 - 1)) < (x3.length : Int) then (if 0 ≤ (rd x3 (wrap64 (x8 - 1))) then (if (rd x3 (wrap64 (x8 - 1))) < (x5.length : Int) then (if (rd x4 (rd x3 x8)) = (rd x5 (rd x3 (wrap64 (x8 - 1)))) then (spec_l5Part.l1 k x3 x4 x5 x6 (wrap64 (x8 - 1))) else (if x8 ≤ (wrap64 (x6 + 1)) then (if (wrap64 (x6 + 1)) ≤ (x3.length : Int) then ((spec_l1Own.f ((x3.take ((wrap64 (x6 + 1)) : Int).toNat).drop (x8 : Int).toNat)).bind fun t290 => (some t290)) else (none)) else (none))) else (none)) else (none)) else (none)) else (none)) else (none)) else (none)) else (none)) else (none)) else (if 0 ≤ x8 then (if x8 ≤ (wrap64 (x6 + 1)) then (if (wrap64 (x6 + 1)) ≤ (x3.length : Int) then ((spec_l1Own.f ((x3.take ((wrap64 (x6 + 1)) : Int).toNat).drop (x8 : Int).toNat)).bind fun t297 => (some t297)) else (none)) else (none)) else (none))
end
def spec_l5Part.f (k : Nat) (l0 : List (S89)) : Option (List Int) := (spec_l5Greedy.f k l0).bind fun t265 => ((spec_l2Starts.f k l0 t265).bind fun t268 => ((spec_l2Ends.f k l0 t265).bind fun t271 => (spec_l5Part.l0 k l0 t265 t268 t271 0 1)))
theorem spec_l5Part.mono_l : ∀ k, (∀ y0 y1 y2 y3 y4 y5, LeO (spec_l5Part.l0 k y0 y1 y2 y3 y4 y5) (spec_l5Part.l0 (k + 1) y0 y1 y2 y3 y4 y5)) ∧ (∀ y0 y1 y2 y3 y4, LeO (spec_l5Part.l1 k y0 y1 y2 y3 y4) (spec_l5Part.l1 (k + 1) y0 y1 y2 y3 y4))
 | 0 => ⟨fun _ _ _ _ _ _ r h => by simp [spec_l5Part.l0] at h, fun _ _ _ _ _ r h => by simp [spec_l5Part.l1] at h⟩
 | k + 1 => by
  obtain ⟨ih0, ih1⟩ := spec_l5Part.mono_l k
  refine ⟨?_, ?_⟩
  ·intro y0 y1 y2 y3 y4 y5
   unfold spec_l5Part.l0
   repeat' first
   | (with_reducible exact ih0 _ _ _ _ _ _)
   | (with_reducible exact ih1 _ _ _ _ _)
   | (with_reducible exact spec_l2Ends.mono _ _ _)
   | (with_reducible exact spec_l2Starts.mono _ _ _)
   | (with_reducible exact spec_l5Greedy.mono _ _)
   | (with_reducible exact LeO.refl _)
   | (with_reducible exact LeO.none _)
   | (with_reducible refine LeO.ite ?_ ?_)
   | (with_reducible refine LeO.bind ?_ (fun _ => ?_))
   | exact ih0 _ _ _ _ _ _
   | exact ih1 _ _ _ _ _
   | exact spec_l2Ends.mono _ _ _
   | exact spec_l2Starts.mono _ _ _
   | exact spec_l5Greedy.mono _ _
   | exact LeO.none _
   | refine LeO.ite ?_ ?_
   | refine LeO.bind ?_ (fun _ => ?_)
  ·intro y0 y1 y2 y3 y4
   unfold spec_l5Part.l1
   repeat' first
   | (with_reducible exact ih0 _ _ _ _ _ _)
   | (with_reducible exact ih1 _ _ _ _ _)
   | (with_reducible exact spec_l2Ends.mono _ _ _)
   | (with_reducible exact spec_l2Starts.mono _ _ _)
   | (with_reducible exact spec_l5Greedy.mono _ _)
   | (with_reducible exact LeO.refl _)
   | (with_reducible exact LeO.none _)
   | (with_reducible refine LeO.ite ?_ ?_)
   | (with_reducible refine LeO.bind ?_ (fun _ => ?_))
   | exact ih0 _ _ _ _ _ _
   | exact ih1 _ _ _ _ _
   | exact spec_l2Ends.mono _ _ _
   | exact spec_l2Starts.mono _ _ _
   | exact spec_l5Greedy.mono _ _
   | exact LeO.none _
   | refine LeO.ite ?_ ?_
   | refine LeO.bind ?_ (fun _ => ?_)
theorem spec_l5Part.mono : ∀ a0 k, LeO (spec_l5Part.f k a0) (spec_l5Part.f (k + 1) a0) := by
 intro a0 k
 obtain ⟨ih0, ih1⟩ := spec_l5Part.mono_l k
 unfold spec_l5Part.f
 repeat' first
   | (with_reducible exact ih0 _ _ _ _ _ _)
   | (with_reducible exact ih1 _ _ _ _ _)
   | (with_reducible exact spec_l2Ends.mono _ _ _)
   | (with_reducible exact spec_l2Starts.mono _ _ _)
   | (with_reducible exact spec_l5Greedy.mono _ _)
   | (with_reducible exact LeO.refl _)
   | (with_reducible exact LeO.none _)
   | (with_reducible refine LeO.ite ?_ ?_)
   | (with_reducible refine LeO.bind ?_ (fun _ => ?_))
   | exact ih0 _ _ _ _ _ _
   | exact ih1 _ _ _ _ _
   | exact spec_l2Ends.mono _ _ _
   | exact spec_l2Starts.mono _ _ _
   | exact spec_l5Greedy.mono _ _
   | exact LeO.none _
   | refine LeO.ite ?_ ?_
   | refine LeO.bind ?_ (fun _ => ?_)
set_option maxHeartbeats 8000000 in
set_option maxRecDepth 100000 in
theorem spec_l5Part.calls (k : Nat) (A0 : Option Addr) (c0 : Nat) (l0 : List (S89)) (r : List Int) (w : World) (hr0 : Kd.C k89 w A0 l0.length l0) (hc0 : l0.length ≤ c0) (h : spec_l5Part.f k l0 = some r) :
  Calls Try.prog 86 #[.slice A0 l0.length c0] w fun e w' => ∃ v0_ : Value, e = .returned (v0_) ∧ Kd.R (Kd.int .i64) 3 w' w.heap.size (fun _ => True) v0_ r ∧ Below w.heap.size w w' := by
 have HR0 := Aside0.mk hr0
 have HC0 := Aside0.mk hc0
 clear hr0 hc0
 have HB := Aside0.mk (Below.refl w.heap.size w)
 have H : ((spec_l5Greedy.f k l0).bind fun t265 => ((spec_l2Starts.f k l0 t265).bind fun t268 => ((spec_l2Ends.f k l0 t265).bind fun t271 => (spec_l5Part.l0 k l0 t265 t268 t271 0 1)))) = some r := h
 clear h
 replace H := Option.bind_eq_some_iff.mp H
 obtain ⟨t265, A20, H⟩ := H
 replace H : ((spec_l2Starts.f k l0 t265).bind fun t268 => ((spec_l2Ends.f k l0 t265).bind fun t271 => (spec_l5Part.l0 k l0 t265 t268 t271 0 1))) = some r := H
 have A2 := Aside0.mk A20
 clear A20
 replace H := Option.bind_eq_some_iff.mp H
 obtain ⟨t268, A30, H⟩ := H
 replace H : ((spec_l2Ends.f k l0 t265).bind fun t271 => (spec_l5Part.l0 k l0 t265 t268 t271 0 1)) = some r := H
 have A3 := Aside0.mk A30
 clear A30
 replace H := Option.bind_eq_some_iff.mp H
 obtain ⟨t271, A40, H⟩ := H
 replace H : (spec_l5Part.l0 k l0 t265 t268 t271 0 1) = some r := H
 have A4 := Aside0.mk A40
 clear A40
 have H' := Aside0.mk H
 clear H
 go_enter Try.func86, Try.ntmps86
 have go_ := True.intro
 repeat ((first | go_quiet (first | (go_at_call 144; (with_reducible refine (spec_l5Greedy.calls k _ _ l0 t265 _ ?side1 ?side2 A2.out).mono ?_); (case side1 => repeat (first | exact HR0.out | (with_reducible refine Kd.C_alloc ?_ _) | (with_reducible refine Kd.C_drewN ?_ _) | (with_reducible refine Kd.C_drew ?_))); (case side2 => exact HC0.out); rintro e w5 ⟨v266, rfl, ho0, hb⟩; have n0_ := Aside0.mk (Kd.R_lower ho0 (below_size (bw HB.out))); have n1_ := Aside0.mk (below_step (bw HB.out) hb); have HO267 := n0_; replace HB := n1_; clear n0_ n1_; (try clear hb); (try clear hb2); (try clear hk); (try clear hi); (try clear ho0); obtain ⟨Ao6, co6, eo6⟩ := Kd.R_slice HO267.out; subst eo6) | (go_at_call 89; (with_reducible refine (spec_l2Starts.calls k _ _ l0 _ _ t265 t268 _ ?side1 ?side2 ?side3 ?side4 A3.out).mono ?_); (case side1 => first | exact bC HR0.out HB.out | exact Kd.C_below HR0.out HB.out); (case side2 => exact HC0.out); (case side3 => repeat (first | exact (Kd.R_reads' HO267.out).2.2 | (with_reducible refine Kd.C_alloc ?_ _) | (with_reducible refine Kd.C_drewN ?_ _) | (with_reducible refine Kd.C_drew ?_))); (case side4 => exact (Kd.R_reads' HO267.out).2.1); rintro e w7 ⟨v269, rfl, ho0, hb⟩; have n0_ := Aside0.mk (Kd.R_elder' (bR HO267.out) (Kd.R_base ho0) hb); have n1_ := Aside0.mk (Kd.R_lower (Kd.R_new' ho0 (Kd.R_lt (bR HO267.out))) (below_size (bw HB.out))); have n2_ := Aside0.mk (below_step (bw HB.out) hb); replace HO267 := n0_; have HO270 := n1_; replace HB := n2_; clear n0_ n1_ n2_; (try clear hb); (try clear hb2); (try clear hk); (try clear hi); (try clear ho0)) | (go_at_call 90; (with_reducible refine (spec_l2Ends.calls k _ _ l0 _ _ t265 t271 _ ?side1 ?side2 ?side3 ?side4 A4.out).mono ?_); (case side1 => first | exact bC HR0.out HB.out | exact Kd.C_below HR0.out HB.out); (case side2 => exact HC0.out); (case side3 => repeat (first | exact (Kd.R_reads' HO267.out).2.2 | (with_reducible refine Kd.C_alloc ?_ _) | (with_reducible refine Kd.C_drewN ?_ _) | (with_reducible refine Kd.C_drew ?_))); (case side4 => exact (Kd.R_reads' HO267.out).2.1); rintro e w8 ⟨v272, rfl, ho0, hb⟩; have n0_ := Aside0.mk (Kd.R_elder' (bR HO267.out) (Kd.R_base ho0) hb); have n1_ := Aside0.mk (Kd.R_elder' (bR HO270.out) (Kd.R_base ho0) hb); have n2_ := Aside0.mk (Kd.R_lower (Kd.R_new' (Kd.R_new' ho0 (Kd.R_lt (bR HO267.out))) (Kd.R_lt (bR HO270.out))) (below_size (bw HB.out))); have n3_ := Aside0.mk (below_step (bw HB.out) hb); replace HO267 := n0_; replace HO270 := n1_; have HO273 := n2_; replace HB := n3_; clear n0_ n1_ n2_ n3_; (try clear hb); (try clear hb2); (try clear hk); (try clear hi); (try clear ho0))) | clear go_); go_wp2_with (first | (go_at_call 144; (with_reducible refine (spec_l5Greedy.calls k _ _ l0 t265 _ ?side1 ?side2 A2.out).mono ?_); (case side1 => repeat (first | exact HR0.out | (with_reducible refine Kd.C_alloc ?_ _) | (with_reducible refine Kd.C_drewN ?_ _) | (with_reducible refine Kd.C_drew ?_))); (case side2 => exact HC0.out); rintro e w5 ⟨v266, rfl, ho0, hb⟩; have n0_ := Aside0.mk (Kd.R_lower ho0 (below_size (bw HB.out))); have n1_ := Aside0.mk (below_step (bw HB.out) hb); have HO267 := n0_; replace HB := n1_; clear n0_ n1_; (try clear hb); (try clear hb2); (try clear hk); (try clear hi); (try clear ho0); obtain ⟨Ao6, co6, eo6⟩ := Kd.R_slice HO267.out; subst eo6) | (go_at_call 89; (with_reducible refine (spec_l2Starts.calls k _ _ l0 _ _ t265 t268 _ ?side1 ?side2 ?side3 ?side4 A3.out).mono ?_); (case side1 => first | exact bC HR0.out HB.out | exact Kd.C_below HR0.out HB.out); (case side2 => exact HC0.out); (case side3 => repeat (first | exact (Kd.R_reads' HO267.out).2.2 | (with_reducible refine Kd.C_alloc ?_ _) | (with_reducible refine Kd.C_drewN ?_ _) | (with_reducible refine Kd.C_drew ?_))); (case side4 => exact (Kd.R_reads' HO267.out).2.1); rintro e w7 ⟨v269, rfl, ho0, hb⟩; have n0_ := Aside0.mk (Kd.R_elder' (bR HO267.out) (Kd.R_base ho0) hb); have n1_ := Aside0.mk (Kd.R_lower (Kd.R_new' ho0 (Kd.R_lt (bR HO267.out))) (below_size (bw HB.out))); have n2_ := Aside0.mk (below_step (bw HB.out) hb); replace HO267 := n0_; have HO270 := n1_; replace HB := n2_; clear n0_ n1_ n2_; (try clear hb); (try clear hb2); (try clear hk); (try clear hi); (try clear ho0)) | (go_at_call 90; (with_reducible refine (spec_l2Ends.calls k _ _ l0 _ _ t265 t271 _ ?side1 ?side2 ?side3 ?side4 A4.out).mono ?_); (case side1 => first | exact bC HR0.out HB.out | exact Kd.C_below HR0.out HB.out); (case side2 => exact HC0.out); (case side3 => repeat (first | exact (Kd.R_reads' HO267.out).2.2 | (with_reducible refine Kd.C_alloc ?_ _) | (with_reducible refine Kd.C_drewN ?_ _) | (with_reducible refine Kd.C_drew ?_))); (case side4 => exact (Kd.R_reads' HO267.out).2.1); rintro e w8 ⟨v272, rfl, ho0, hb⟩; have n0_ := Aside0.mk (Kd.R_elder' (bR HO267.out) (Kd.R_base ho0) hb); have n1_ := Aside0.mk (Kd.R_elder' (bR HO270.out) (Kd.R_base ho0) hb); have n2_ := Aside0.mk (Kd.R_lower (Kd.R_new' (Kd.R_new' ho0 (Kd.R_lt (bR HO267.out))) (Kd.R_lt (bR HO270.out))) (below_size (bw HB.out))); have n3_ := Aside0.mk (below_step (bw HB.out) hb); replace HO267 := n0_; replace HO270 := n1_; have HO273 := n2_; replace HB := n3_; clear n0_ n1_ n2_ n3_; (try clear hb); (try clear hb2); (try clear hk); (try clear hi); (try clear ho0))))
 go_loopg [6, 7] k (fun kq v6 v7 w' => ∃ (x6_1 : Int) (x7_1 : Int), v6 = .int .i64 x6_1 ∧ v7 = .int .i64 x7_1 ∧ Aside0 (spec_l5Part.l0 kq l0 t265 t268 t271 x6_1 x7_1 = some r) ∧ Aside0 (kq ≤ k) ∧ Aside0 (Kd.R (Kd.int .i64) 3 w' w.heap.size (fun k_ => some k_ ≠ (v269 : Value).ownBlock ∧ some k_ ≠ (v272 : Value).ownBlock) (.slice Ao6 t265.length co6) t265) ∧ Aside0 (Kd.R (Kd.int .i64) 3 w' w.heap.size (fun k_ => some k_ ≠ ((.slice Ao6 t265.length co6) : Value).ownBlock ∧ some k_ ≠ (v272 : Value).ownBlock) v269 t268) ∧ Aside0 (Kd.R (Kd.int .i64) 3 w' w.heap.size (fun k_ => some k_ ≠ ((.slice Ao6 t265.length co6) : Value).ownBlock ∧ some k_ ≠ (v269 : Value).ownBlock) v272 t271) ∧ Aside0 (Below w.heap.size w w'))
 case atStart => exact ⟨(0), (1), (by first | rfl | (simp; done) | (simp [*]; done)), (by first | rfl | (simp; done) | (simp [*]; done)), H', ⟨Nat.le_refl _⟩, ⟨by (with_reducible repeat (first | apply Kd.R_alloc | apply Kd.R_drewN | apply Kd.R_drew)); exact Kd.R_mono HO267.out (fun _ hk => ⟨hk.1.2, hk.2⟩)⟩, ⟨by (with_reducible repeat (first | apply Kd.R_alloc | apply Kd.R_drewN | apply Kd.R_drew)); exact Kd.R_mono HO270.out (fun _ hk => ⟨hk.1.2, hk.2⟩)⟩, ⟨by (with_reducible repeat (first | apply Kd.R_alloc | apply Kd.R_drewN | apply Kd.R_drew)); exact Kd.R_mono HO273.out (fun _ hk => ⟨hk.1.2, hk.2⟩)⟩, ⟨bw HB.out⟩⟩
 case round =>
  clear H'
  try clear p2
  try clear c8
  obtain ⟨x6_1, x7_1, rfl, rfl, HA, HK1, HO_3, HO_4, HO_5, HB⟩ := hrel
  cases gk with
  | zero => exact absurd HA.out (by simp [spec_l5Part.l0])
  | succ k1 =>
   have H := HA.out
   clear HA
   simp only [spec_l5Part.l0] at H
   by_cases c9 : x7_1 < (t265.length : Int)
   ·rw [if_pos c9] at H
    have c9b0 : decide (x7_1 < (t265.length : Int)) = true := decide_eq_true c9
    clear c9
    by_cases c10 : 0 ≤ x7_1
    rotate_left
    ·rw [if_neg c10] at H
     exact absurd H (by simp)
    rw [if_pos c10] at H
    have c10b0 : decide (0 ≤ x7_1) = true := decide_eq_true c10
    clear c10
    by_cases c11 : 0 ≤ (rd t265 x7_1)
    rotate_left
    ·rw [if_neg c11] at H
     exact absurd H (by simp)
    rw [if_pos c11] at H
    have c11b0 : decide (0 ≤ (rd t265 x7_1)) = true := decide_eq_true c11
    clear c11
    by_cases c12 : (rd t265 x7_1) < (t271.length : Int)
    rotate_left
    ·rw [if_neg c12] at H
     exact absurd H (by simp)
    rw [if_pos c12] at H
    have c12b0 : decide ((rd t265 x7_1) < (t271.length : Int)) = true := decide_eq_true c12
    clear c12
    by_cases c13 : (rd t265 x7_1) < (l0.length : Int)
    rotate_left
    ·rw [if_neg c13] at H
     exact absurd H (by simp)
    rw [if_pos c13] at H
    have c13b0 : decide ((rd t265 x7_1) < (l0.length : Int)) = true := decide_eq_true c13
    clear c13
    by_cases c14 : 0 ≤ x6_1
    rotate_left
    ·rw [if_neg c14] at H
     exact absurd H (by simp)
    rw [if_pos c14] at H
    have c14b0 : decide (0 ≤ x6_1) = true := decide_eq_true c14
    clear c14
    by_cases c15 : x6_1 < (t265.length : Int)
    rotate_left
    ·rw [if_neg c15] at H
     exact absurd H (by simp)
    rw [if_pos c15] at H
    have c15b0 : decide (x6_1 < (t265.length : Int)) = true := decide_eq_true c15
    clear c15
    by_cases c16 : 0 ≤ (rd t265 x6_1)
    rotate_left
    ·rw [if_neg c16] at H
     exact absurd H (by simp)
    rw [if_pos c16] at H
    have c16b0 : decide (0 ≤ (rd t265 x6_1)) = true := decide_eq_true c16
    clear c16
    by_cases c17 : (rd t265 x6_1) < (t271.length : Int)
    rotate_left
    ·rw [if_neg c17] at H
     exact absurd H (by simp)
    rw [if_pos c17] at H
    have c17b0 : decide ((rd t265 x6_1) < (t271.length : Int)) = true := decide_eq_true c17
    clear c17
    by_cases c18 : (rd t265 x6_1) < (l0.length : Int)
    rotate_left
    ·rw [if_neg c18] at H
     exact absurd H (by simp)
    rw [if_pos c18] at H
    have c18b0 : decide ((rd t265 x6_1) < (l0.length : Int)) = true := decide_eq_true c18
    clear c18
    by_cases c19 : (wrap64 ((rd t271 (rd t265 x7_1)) - ((rd_T89 l0 (rd t265 x7_1)).f3))) > (wrap64 ((rd t271 (rd t265 x6_1)) - ((rd_T89 l0 (rd t265 x6_1)).f3)))
    ·rw [if_pos c19] at H
     have c19b0 : decide ((wrap64 ((rd t271 (rd t265 x6_1)) - ((rd_T89 l0 (rd t265 x6_1)).f3))) < (wrap64 ((rd t271 (rd t265 x7_1)) - ((rd_T89 l0 (rd t265 x7_1)).f3)))) = true := decide_eq_true c19
     clear c19
     have H' := Aside0.mk H
     clear H
     have p274 : 0 ≤ (x7_1 : Int) := of_decide_eq_true (by first | (with_reducible assumption) | assumption)
     have q274 : x7_1 < (t265.length : Int) := of_decide_eq_true (by first | (with_reducible assumption) | assumption)
     obtain ⟨ad274, e274, hx274_0⟩ := Kd.at_int (Kd.R_reads' HO_3.out).2.2 x7_1 p274 q274
     cases e274
     replace p274 := eq_true p274
     replace q274 := eq_true q274
     obtain ⟨Ao20, co20, eo20⟩ := Kd.R_slice HO_5.out
     subst eo20
     have p275 : 0 ≤ ((rd t265 x7_1) : Int) := of_decide_eq_true (by first | (with_reducible assumption) | assumption)
     have q275 : (rd t265 x7_1) < (t271.length : Int) := of_decide_eq_true (by first | (with_reducible assumption) | assumption)
     obtain ⟨ad275, e275, hx275_0⟩ := Kd.at_int (Kd.R_reads' HO_5.out).2.2 (rd t265 x7_1) p275 q275
     cases e275
     replace p275 := eq_true p275
     replace q275 := eq_true q275
     have p276 : 0 ≤ (x7_1 : Int) := of_decide_eq_true (by first | (with_reducible assumption) | assumption)
     have q276 : x7_1 < (t265.length : Int) := of_decide_eq_true (by first | (with_reducible assumption) | assumption)
     obtain ⟨ad276, e276, hx276_0⟩ := Kd.at_int (Kd.R_reads' HO_3.out).2.2 x7_1 p276 q276
     obtain rfl : ad274 = ad276 := (by injection e276)
     replace p276 := eq_true p276
     replace q276 := eq_true q276
     have p277 : 0 ≤ ((rd t265 x7_1) : Int) := of_decide_eq_true (by first | (with_reducible assumption) | assumption)
     have q277 : (rd t265 x7_1) < (l0.length : Int) := of_decide_eq_true (by first | (with_reducible assumption) | assumption)
     obtain ⟨ad277, e277, hx277_0, hx277_1, hx277_2, hx277_3⟩ := at_T89 HR0.out (rd t265 x7_1) p277 q277
     cases e277
     replace hx277_0 := (HB.out.cell (World.block_lt_of_cell? w _ hx277_0)).trans hx277_0
     replace hx277_1 := (HB.out.cell (World.block_lt_of_cell? w _ hx277_1)).trans hx277_1
     replace hx277_2 := (HB.out.cell (World.block_lt_of_cell? w _ hx277_2)).trans hx277_2
     replace hx277_3 := (HB.out.cell (World.block_lt_of_cell? w _ hx277_3)).trans hx277_3
     replace p277 := eq_true p277
     replace q277 := eq_true q277
     have p278 : 0 ≤ (x6_1 : Int) := of_decide_eq_true (by first | (with_reducible assumption) | assumption)
     have q278 : x6_1 < (t265.length : Int) := of_decide_eq_true (by first | (with_reducible assumption) | assumption)
     obtain ⟨ad278, e278, hx278_0⟩ := Kd.at_int (Kd.R_reads' HO_3.out).2.2 x6_1 p278 q278
     obtain rfl : ad274 = ad278 := (by injection e278)
     replace p278 := eq_true p278
     replace q278 := eq_true q278
     have p279 : 0 ≤ ((rd t265 x6_1) : Int) := of_decide_eq_true (by first | (with_reducible assumption) | assumption)
     have q279 : (rd t265 x6_1) < (t271.length : Int) := of_decide_eq_true (by first | (with_reducible assumption) | assumption)
     obtain ⟨ad279, e279, hx279_0⟩ := Kd.at_int (Kd.R_reads' HO_5.out).2.2 (rd t265 x6_1) p279 q279
     obtain rfl : ad275 = ad279 := (by injection e279)
     replace p279 := eq_true p279
     replace q279 := eq_true q279
     have p280 : 0 ≤ (x6_1 : Int) := of_decide_eq_true (by first | (with_reducible assumption) | assumption)
     have q280 : x6_1 < (t265.length : Int) := of_decide_eq_true (by first | (with_reducible assumption) | assumption)
     obtain ⟨ad280, e280, hx280_0⟩ := Kd.at_int (Kd.R_reads' HO_3.out).2.2 x6_1 p280 q280
     obtain rfl : ad274 = ad280 := (by injection e280)
     replace p280 := eq_true p280
     replace q280 := eq_true q280
     have p281 : 0 ≤ ((rd t265 x6_1) : Int) := of_decide_eq_true (by first | (with_reducible assumption) | assumption)
     have q281 : (rd t265 x6_1) < (l0.length : Int) := of_decide_eq_true (by first | (with_reducible assumption) | assumption)
     obtain ⟨ad281, e281, hx281_0, hx281_1, hx281_2, hx281_3⟩ := at_T89 HR0.out (rd t265 x6_1) p281 q281
     obtain rfl : ad277 = ad281 := (by injection e281)
     replace hx281_0 := (HB.out.cell (World.block_lt_of_cell? w _ hx281_0)).trans hx281_0
     replace hx281_1 := (HB.out.cell (World.block_lt_of_cell? w _ hx281_1)).trans hx281_1
     replace hx281_2 := (HB.out.cell (World.block_lt_of_cell? w _ hx281_2)).trans hx281_2
     replace hx281_3 := (HB.out.cell (World.block_lt_of_cell? w _ hx281_3)).trans hx281_3
     replace p281 := eq_true p281
     replace q281 := eq_true q281
     go_wp2
     repeat (go_quiet (fail); try go_wp2)
     go_roundg k1
     case measure => have := HK1.out; omega
     case rel => exact ⟨(x7_1), (wrap64 (x7_1 + 1)), (by first | rfl | (simp; done) | (simp [*]; done)), (by first | rfl | (simp; done) | (simp [*]; done)), H', ⟨by have := HK1.out; omega⟩, ⟨bR HO_3.out⟩, ⟨bR HO_4.out⟩, ⟨bR HO_5.out⟩, ⟨bw HB.out⟩⟩
    rw [if_neg c19] at H
    have c19b0 : decide ((wrap64 ((rd t271 (rd t265 x6_1)) - ((rd_T89 l0 (rd t265 x6_1)).f3))) < (wrap64 ((rd t271 (rd t265 x7_1)) - ((rd_T89 l0 (rd t265 x7_1)).f3)))) = false := decide_eq_false c19
    clear c19
    have H' := Aside0.mk H
    clear H
    have p274 : 0 ≤ (x7_1 : Int) := of_decide_eq_true (by first | (with_reducible assumption) | assumption)
    have q274 : x7_1 < (t265.length : Int) := of_decide_eq_true (by first | (with_reducible assumption) | assumption)
    obtain ⟨ad274, e274, hx274_0⟩ := Kd.at_int (Kd.R_reads' HO_3.out).2.2 x7_1 p274 q274
    cases e274
    replace p274 := eq_true p274
    replace q274 := eq_true q274
    obtain ⟨Ao21, co21, eo21⟩ := Kd.R_slice HO_5.out
    subst eo21
    have p275 : 0 ≤ ((rd t265 x7_1) : Int) := of_decide_eq_true (by first | (with_reducible assumption) | assumption)
    have q275 : (rd t265 x7_1) < (t271.length : Int) := of_decide_eq_true (by first | (with_reducible assumption) | assumption)
    obtain ⟨ad275, e275, hx275_0⟩ := Kd.at_int (Kd.R_reads' HO_5.out).2.2 (rd t265 x7_1) p275 q275
    cases e275
    replace p275 := eq_true p275
    replace q275 := eq_true q275
    have p276 : 0 ≤ (x7_1 : Int) := of_decide_eq_true (by first | (with_reducible assumption) | assumption)
    have q276 : x7_1 < (t265.length : Int) := of_decide_eq_true (by first | (with_reducible assumption) | assumption)
    obtain ⟨ad276, e276, hx276_0⟩ := Kd.at_int (Kd.R_reads' HO_3.out).2.2 x7_1 p276 q276
    obtain rfl : ad274 = ad276 := (by injection e276)
    replace p276 := eq_true p276
    replace q276 := eq_true q276
    have p277 : 0 ≤ ((rd t265 x7_1) : Int) := of_decide_eq_true (by first | (with_reducible assumption) | assumption)
    have q277 : (rd t265 x7_1) < (l0.length : Int) := of_decide_eq_true (by first | (with_reducible assumption) | assumption)
    obtain ⟨ad277, e277, hx277_0, hx277_1, hx277_2, hx277_3⟩ := at_T89 HR0.out (rd t265 x7_1) p277 q277
    cases e277
    replace hx277_0 := (HB.out.cell (World.block_lt_of_cell? w _ hx277_0)).trans hx277_0
    replace hx277_1 := (HB.out.cell (World.block_lt_of_cell? w _ hx277_1)).trans hx277_1
    replace hx277_2 := (HB.out.cell (World.block_lt_of_cell? w _ hx277_2)).trans hx277_2
    replace hx277_3 := (HB.out.cell (World.block_lt_of_cell? w _ hx277_3)).trans hx277_3
    replace p277 := eq_true p277
    replace q277 := eq_true q277
    have p278 : 0 ≤ (x6_1 : Int) := of_decide_eq_true (by first | (with_reducible assumption) | assumption)
    have q278 : x6_1 < (t265.length : Int) := of_decide_eq_true (by first | (with_reducible assumption) | assumption)
    obtain ⟨ad278, e278, hx278_0⟩ := Kd.at_int (Kd.R_reads' HO_3.out).2.2 x6_1 p278 q278
    obtain rfl : ad274 = ad278 := (by injection e278)
    replace p278 := eq_true p278
    replace q278 := eq_true q278
    have p279 : 0 ≤ ((rd t265 x6_1) : Int) := of_decide_eq_true (by first | (with_reducible assumption) | assumption)
    have q279 : (rd t265 x6_1) < (t271.length : Int) := of_decide_eq_true (by first | (with_reducible assumption) | assumption)
    obtain ⟨ad279, e279, hx279_0⟩ := Kd.at_int (Kd.R_reads' HO_5.out).2.2 (rd t265 x6_1) p279 q279
    obtain rfl : ad275 = ad279 := (by injection e279)
    replace p279 := eq_true p279
    replace q279 := eq_true q279
    have p280 : 0 ≤ (x6_1 : Int) := of_decide_eq_true (by first | (with_reducible assumption) | assumption)
    have q280 : x6_1 < (t265.length : Int) := of_decide_eq_true (by first | (with_reducible assumption) | assumption)
    obtain ⟨ad280, e280, hx280_0⟩ := Kd.at_int (Kd.R_reads' HO_3.out).2.2 x6_1 p280 q280
    obtain rfl : ad274 = ad280 := (by injection e280)
    replace p280 := eq_true p280
    replace q280 := eq_true q280
    have p281 : 0 ≤ ((rd t265 x6_1) : Int) := of_decide_eq_true (by first | (with_reducible assumption) | assumption)
    have q281 : (rd t265 x6_1) < (l0.length : Int) := of_decide_eq_true (by first | (with_reducible assumption) | assumption)
    obtain ⟨ad281, e281, hx281_0, hx281_1, hx281_2, hx281_3⟩ := at_T89 HR0.out (rd t265 x6_1) p281 q281
    obtain rfl : ad277 = ad281 := (by injection e281)
    replace hx281_0 := (HB.out.cell (World.block_lt_of_cell? w _ hx281_0)).trans hx281_0
    replace hx281_1 := (HB.out.cell (World.block_lt_of_cell? w _ hx281_1)).trans hx281_1
    replace hx281_2 := (HB.out.cell (World.block_lt_of_cell? w _ hx281_2)).trans hx281_2
    replace hx281_3 := (HB.out.cell (World.block_lt_of_cell? w _ hx281_3)).trans hx281_3
    replace p281 := eq_true p281
    replace q281 := eq_true q281
    go_wp2
    repeat (go_quiet (fail); try go_wp2)
    go_roundg k1
    case measure => have := HK1.out; omega
    case rel => exact ⟨(x6_1), (wrap64 (x7_1 + 1)), (by first | rfl | (simp; done) | (simp [*]; done)), (by first | rfl | (simp; done) | (simp [*]; done)), H', ⟨by have := HK1.out; omega⟩, ⟨bR HO_3.out⟩, ⟨bR HO_4.out⟩, ⟨bR HO_5.out⟩, ⟨bw HB.out⟩⟩
   rw [if_neg c9] at H
   have c9b0 : decide (x7_1 < (t265.length : Int)) = false := decide_eq_false c9
   clear c9
   have H' := Aside0.mk H
   clear H
   go_wp2
   repeat (go_quiet (fail); try go_wp2)
   go_loopg [8] k1 (fun kq v8 w' => ∃ (x8_2 : Int), v8 = .int .i64 x8_2 ∧ Aside0 (spec_l5Part.l1 kq t265 t268 t271 x6_1 x8_2 = some r) ∧ Aside0 (kq ≤ k1) ∧ Aside0 (Kd.R (Kd.int .i64) 3 w' w.heap.size (fun k_ => some k_ ≠ (v269 : Value).ownBlock ∧ some k_ ≠ (v272 : Value).ownBlock) (.slice Ao6 t265.length co6) t265) ∧ Aside0 (Kd.R (Kd.int .i64) 3 w' w.heap.size (fun k_ => some k_ ≠ ((.slice Ao6 t265.length co6) : Value).ownBlock ∧ some k_ ≠ (v272 : Value).ownBlock) v269 t268) ∧ Aside0 (Kd.R (Kd.int .i64) 3 w' w.heap.size (fun k_ => some k_ ≠ ((.slice Ao6 t265.length co6) : Value).ownBlock ∧ some k_ ≠ (v269 : Value).ownBlock) v272 t271) ∧ Aside0 (Below w.heap.size w w'))
   case atStart => exact ⟨(x6_1), (by first | rfl | (simp; done) | (simp [*]; done)), H', ⟨Nat.le_refl _⟩, ⟨bR HO_3.out⟩, ⟨bR HO_4.out⟩, ⟨bR HO_5.out⟩, ⟨bw HB.out⟩⟩
   case round =>
    clear H'
    try clear c1
    try clear p2
    try clear q2
    try clear hx2
    try clear p6
    try clear c8
    try clear c9
    try clear c9b0
    try clear c10
    try clear c10b0
    try clear c11
    try clear c11b0
    try clear c12
    try clear c12b0
    try clear c13
    try clear c13b0
    try clear c14
    try clear c14b0
    try clear c15
    try clear c15b0
    try clear c16
    try clear c16b0
    try clear c17
    try clear c17b0
    try clear c18
    try clear c18b0
    try clear c19
    try clear c19b0
    try clear hx274_0
    try clear hx275_0
    try clear hx276_0
    try clear hx277_0
    try clear hx277_1
    try clear hx277_2
    try clear hx277_3
    try clear hx278_0
    try clear hx279_0
    try clear hx280_0
    try clear hx281_0
    try clear hx281_1
    try clear hx281_2
    try clear hx281_3
    try clear p2
    try clear p274
    try clear p275
    try clear p276
    try clear p277
    try clear p278
    try clear p279
    try clear p280
    try clear p281
    try clear q274
    try clear q275
    try clear q276
    try clear q277
    try clear q278
    try clear q279
    try clear q280
    try clear q281
    obtain ⟨x8_2, rfl, HA, HK2, HO_3, HO_4, HO_5, HB⟩ := hrel
    cases gk with
    | zero => exact absurd HA.out (by simp [spec_l5Part.l1])
    | succ k2 =>
     have H := HA.out
     clear HA
     simp only [spec_l5Part.l1] at H
     by_cases c22 : x8_2 > 0
     rotate_left
     ·rw [if_neg c22] at H
      have c22b0 : decide (0 < x8_2) = false := decide_eq_false c22
      clear c22
      by_cases c43 : 0 ≤ x8_2
      rotate_left
      ·rw [if_neg c43] at H
       exact absurd H (by simp)
      rw [if_pos c43] at H
      have c43b0 := eq_true c43
      have c43b1 : decide (0 ≤ x8_2) = true := decide_eq_true c43
      clear c43
      by_cases c44 : x8_2 ≤ (wrap64 (x6_1 + 1))
      rotate_left
      ·rw [if_neg c44] at H
       exact absurd H (by simp)
      rw [if_pos c44] at H
      have c44b0 := eq_true c44
      have c44b1 : decide (x8_2 ≤ (wrap64 (x6_1 + 1))) = true := decide_eq_true c44
      by_cases c45 : (wrap64 (x6_1 + 1)) ≤ (t265.length : Int)
      rotate_left
      ·rw [if_neg c45] at H
       exact absurd H (by simp)
      rw [if_pos c45] at H
      have c45b0 := eq_true c45
      have c45b1 : decide ((wrap64 (x6_1 + 1)) ≤ (t265.length : Int)) = true := decide_eq_true c45
      obtain ⟨y293, hy293⟩ : ∃ y_ : List Int, y_ = ((t265.take ((wrap64 (x6_1 + 1)) : Int).toNat).drop (x8_2 : Int).toNat) := ⟨_, rfl⟩
      replace H : ((spec_l1Own.f y293).bind fun t297 => (some t297)) = some r := by first | (rw [hy293]; with_reducible exact H) | (have H2_ := (Option.bind_some _ _).symm.trans H; rw [hy293]; with_reducible exact H2_) | (have H2_ := (Option.bind_some _ _).symm.trans H; with_reducible exact H2_) | with_reducible exact H | (rw [hy293]; exact H) | exact H
      have Ny293 := Aside0.mk hy293
      clear hy293
      replace H := Option.bind_eq_some_iff.mp H
      obtain ⟨t297, A460, H⟩ := H
      replace H : (some t297) = some r := H
      have A46 := Aside0.mk A460
      clear A460
      obtain rfl := Option.some.inj H
      have q47 : ((wrap64 (x6_1 + 1)) : Int) ≤ ((t265.length : Int) : Int) := of_decide_eq_true (by first | (with_reducible assumption) | assumption)
      obtain ⟨i047, hi047, _, hsz47, _⟩ := info_parts info3
      have hroom47 : t265.length ≤ co6 := (Kd.R_reads' HO_3.out).2.1
      have hC47 : Kd.C (Kd.int .i64) _ Ao6 t265.length t265 := (Kd.R_reads' HO_3.out).2.2
      have ql47 : (x8_2 : Int) ≤ ((wrap64 (x6_1 + 1)) : Int) := of_decide_eq_true (by first | (with_reducible assumption) | assumption)
      have q047 : (0 : Int) ≤ (x8_2 : Int) := of_decide_eq_true (by first | (with_reducible assumption) | assumption)
      have hcut47 := cut_mid (P := Try.prog) 23 3 .i64 .i64 Try.underlying23 hi047 1 hsz47 Ao6 t265.length co6 x8_2 (wrap64 (x6_1 + 1)) q047 ql47 q47 hroom47
      have hr47 := Kd.C_mid (lo := (x8_2 : Int).toNat) (hi := ((wrap64 (x6_1 + 1)) : Int).toNat) (c := co6) hC47 (by omega) (by omega) hroom47
      obtain ⟨A47, hA47⟩ : ∃ A1, A1 = (if co6 = (x8_2 : Int).toNat then Ao6 else (Ao6 : Option Addr).map (·.add ((x8_2 : Int).toNat * 1))) := ⟨_, rfl⟩
      obtain ⟨c47, hc47⟩ : ∃ c1, c1 = co6 - (x8_2 : Int).toNat := ⟨_, rfl⟩
      have hy47 : y293.length = ((wrap64 (x6_1 + 1)) : Int).toNat - (x8_2 : Int).toNat := (by rw [Ny293.out, List.length_drop, List.length_take] <;> omega)
      rw [show ((t265).take ((wrap64 (x6_1 + 1)) : Int).toNat).drop (x8_2 : Int).toNat = y293 from Ny293.out.symm] at hr47
      replace hr47 : Kd.C (Kd.int .i64) _ A47 y293.length y293 := (by rw [hA47]; exact hr47)
      rw [← hy47, ← hA47, ← hc47] at hcut47
      have HR296 := Aside0.mk hr47
      have HC296 := Aside0.mk (show y293.length ≤ c47 from by rw [hy47, hc47]; exact Nat.sub_le_sub_right (Nat.le_trans (by omega) hroom47) _)
      clear hr47 hC47 hroom47 hi047 hsz47 hc47
      have KY47 := Aside0.mk hy47
      have KA47 := Aside0.mk hA47
      clear hy47 hA47
      have KL47 := Aside0.mk (show ((wrap64 (x6_1 + 1)) : Int).toNat ≤ t265.length from by omega)
      have KM47 := Aside0.mk (show (x8_2 : Int).toNat ≤ ((wrap64 (x6_1 + 1)) : Int).toNat from by omega)
      replace q47 := eq_true q47
      have go_ := True.intro
      repeat ((first | go_quiet (first | (go_at_call 122; (with_reducible refine (spec_l1Own.calls _ _ y293 t297 _ ?side1 ?side2 A46.out).mono ?_); (case side1 => repeat (first | exact (by repeat (first | (with_reducible exact HR296.out) | (with_reducible refine Kd.C_alloc ?_ _) | (with_reducible refine Kd.C_drewN ?_ _) | (with_reducible refine Kd.C_drew ?_) | exact HR296.out)) | (with_reducible refine Kd.C_alloc ?_ _) | (with_reducible refine Kd.C_drewN ?_ _) | (with_reducible refine Kd.C_drew ?_))); (case side2 => exact HC296.out); rintro e w48 ⟨v298, rfl, ho0, hb⟩; have n0_ := Aside0.mk (Kd.R_elder' (bR HO_3.out) (Kd.R_base ho0) hb); have n1_ := Aside0.mk (Kd.R_elder' (bR HO_4.out) (Kd.R_base ho0) hb); have n2_ := Aside0.mk (Kd.R_elder' (bR HO_5.out) (Kd.R_base ho0) hb); have n3_ := Aside0.mk (Kd.R_lower (Kd.R_new' (Kd.R_new' (Kd.R_new' ho0 (Kd.R_lt (bR HO_3.out))) (Kd.R_lt (bR HO_4.out))) (Kd.R_lt (bR HO_5.out))) (below_size (bw HB.out))); have n4_ := Aside0.mk (Kd.C_below (by repeat (first | (with_reducible exact HR296.out) | (with_reducible refine Kd.C_alloc ?_ _) | (with_reducible refine Kd.C_drewN ?_ _) | (with_reducible refine Kd.C_drew ?_) | exact HR296.out)) hb); have n5_ := Aside0.mk (below_step (bw HB.out) hb); replace HO_3 := n0_; replace HO_4 := n1_; replace HO_5 := n2_; have HO299 := n3_; replace HR296 := n4_; replace HB := n5_; clear n0_ n1_ n2_ n3_ n4_ n5_; (try clear hb); (try clear hb2); (try clear hk); (try clear hi); (try clear ho0))) | clear go_); go_wp2_with (first | (go_at_call 122; (with_reducible refine (spec_l1Own.calls _ _ y293 t297 _ ?side1 ?side2 A46.out).mono ?_); (case side1 => repeat (first | exact (by repeat (first | (with_reducible exact HR296.out) | (with_reducible refine Kd.C_alloc ?_ _) | (with_reducible refine Kd.C_drewN ?_ _) | (with_reducible refine Kd.C_drew ?_) | exact HR296.out)) | (with_reducible refine Kd.C_alloc ?_ _) | (with_reducible refine Kd.C_drewN ?_ _) | (with_reducible refine Kd.C_drew ?_))); (case side2 => exact HC296.out); rintro e w48 ⟨v298, rfl, ho0, hb⟩; have n0_ := Aside0.mk (Kd.R_elder' (bR HO_3.out) (Kd.R_base ho0) hb); have n1_ := Aside0.mk (Kd.R_elder' (bR HO_4.out) (Kd.R_base ho0) hb); have n2_ := Aside0.mk (Kd.R_elder' (bR HO_5.out) (Kd.R_base ho0) hb); have n3_ := Aside0.mk (Kd.R_lower (Kd.R_new' (Kd.R_new' (Kd.R_new' ho0 (Kd.R_lt (bR HO_3.out))) (Kd.R_lt (bR HO_4.out))) (Kd.R_lt (bR HO_5.out))) (below_size (bw HB.out))); have n4_ := Aside0.mk (Kd.C_below (by repeat (first | (with_reducible exact HR296.out) | (with_reducible refine Kd.C_alloc ?_ _) | (with_reducible refine Kd.C_drewN ?_ _) | (with_reducible refine Kd.C_drew ?_) | exact HR296.out)) hb); have n5_ := Aside0.mk (below_step (bw HB.out) hb); replace HO_3 := n0_; replace HO_4 := n1_; replace HO_5 := n2_; have HO299 := n3_; replace HR296 := n4_; replace HB := n5_; clear n0_ n1_ n2_ n3_ n4_ n5_; (try clear hb); (try clear hb2); (try clear hk); (try clear hi); (try clear ho0))))
      go_ret
      exact ⟨_, by first | rfl | (simp [errW_none, errW_some] <;> rfl) | (simp [*, errW_none, errW_some] <;> rfl), by (with_reducible repeat (first | apply Kd.R_alloc | apply Kd.R_drewN | apply Kd.R_drew)); exact Kd.R_mono HO299.out (fun _ hk => trivial), bw HB.out⟩
     rw [if_pos c22] at H
     have c22b0 : decide (0 < x8_2) = true := decide_eq_true c22
     clear c22
     by_cases c23 : 0 ≤ x8_2
     rotate_left
     ·rw [if_neg c23] at H
      exact absurd H (by simp)
     rw [if_pos c23] at H
     have c23b0 : decide (0 ≤ x8_2) = true := decide_eq_true c23
     clear c23
     by_cases c24 : x8_2 < (t265.length : Int)
     rotate_left
     ·rw [if_neg c24] at H
      exact absurd H (by simp)
     rw [if_pos c24] at H
     have c24b0 : decide (x8_2 < (t265.length : Int)) = true := decide_eq_true c24
     clear c24
     by_cases c25 : 0 ≤ (rd t265 x8_2)
     rotate_left
     ·rw [if_neg c25] at H
      exact absurd H (by simp)
     rw [if_pos c25] at H
     have c25b0 : decide (0 ≤ (rd t265 x8_2)) = true := decide_eq_true c25
     clear c25
     by_cases c26 : (rd t265 x8_2) < (t268.length : Int)
     rotate_left
     ·rw [if_neg c26] at H
      exact absurd H (by simp)
     rw [if_pos c26] at H
     have c26b0 : decide ((rd t265 x8_2) < (t268.length : Int)) = true := decide_eq_true c26
     clear c26
     obtain ⟨ji27, hji27⟩ : ∃ j_ : Int, (wrap64 (x8_2 - 1)) = j_ := ⟨_, rfl⟩
     replace H : (if 0 ≤ (ji27) then (if (ji27) < (t265.length : Int) then (if 0 ≤ (rd t265 (ji27)) then (if (rd t265 (ji27)) < (t271.length : Int) then (if (rd t268 (rd t265 x8_2)) = (rd t271 (rd t265 (ji27))) then (spec_l5Part.l1 k2 t265 t268 t271 x6_1 ji27) else (if x8_2 ≤ (wrap64 (x6_1 + 1)) then (if (wrap64 (x6_1 + 1)) ≤ (t265.length : Int) then ((spec_l1Own.f ((t265.take ((wrap64 (x6_1 + 1)) : Int).toNat).drop (x8_2 : Int).toNat)).bind fun t290 => (some t290)) else (none)) else (none))) else (none)) else (none)) else (none)) else (none)) = some r := by first | (rw [hji27] at H; exact H) | (simp only [hji27] at H ⊢; exact H)
     have hji27w : (IntKind.i64.wrap (x8_2 - 1)) = ji27 := (i64_w _).trans hji27
     by_cases c28 : 0 ≤ (ji27)
     rotate_left
     ·rw [if_neg c28] at H
      exact absurd H (by simp)
     rw [if_pos c28] at H
     have c28b0 : decide (0 ≤ (ji27)) = true := decide_eq_true c28
     clear c28
     by_cases c29 : (ji27) < (t265.length : Int)
     rotate_left
     ·rw [if_neg c29] at H
      exact absurd H (by simp)
     rw [if_pos c29] at H
     have c29b0 : decide ((ji27) < (t265.length : Int)) = true := decide_eq_true c29
     clear c29
     by_cases c30 : 0 ≤ (rd t265 (ji27))
     rotate_left
     ·rw [if_neg c30] at H
      exact absurd H (by simp)
     rw [if_pos c30] at H
     have c30b0 : decide (0 ≤ (rd t265 (ji27))) = true := decide_eq_true c30
     clear c30
     by_cases c31 : (rd t265 (ji27)) < (t271.length : Int)
     rotate_left
     ·rw [if_neg c31] at H
      exact absurd H (by simp)
     rw [if_pos c31] at H
     have c31b0 : decide ((rd t265 (ji27)) < (t271.length : Int)) = true := decide_eq_true c31
     clear c31
     by_cases c32 : (rd t268 (rd t265 x8_2)) = (rd t271 (rd t265 (ji27)))
     ·rw [if_pos c32] at H
      have c32b0 : ((rd t268 (rd t265 x8_2)) == (rd t271 (rd t265 (ji27)))) = true := beq_iff_eq.mpr c32
      have c32b1 : ((rd t268 (rd t265 x8_2)) != (rd t271 (rd t265 (ji27)))) = false := bne_eq_false_iff_eq.mpr c32
      clear c32
      have H' := Aside0.mk H
      clear H
      have p282 : 0 ≤ (x8_2 : Int) := of_decide_eq_true (by first | (with_reducible assumption) | assumption)
      have q282 : x8_2 < (t265.length : Int) := of_decide_eq_true (by first | (with_reducible assumption) | assumption)
      obtain ⟨ad282, e282, hx282_0⟩ := Kd.at_int (Kd.R_reads' HO_3.out).2.2 x8_2 p282 q282
      cases e282
      replace p282 := eq_true p282
      replace q282 := eq_true q282
      obtain ⟨Ao33, co33, eo33⟩ := Kd.R_slice HO_4.out
      subst eo33
      have p283 : 0 ≤ ((rd t265 x8_2) : Int) := of_decide_eq_true (by first | (with_reducible assumption) | assumption)
      have q283 : (rd t265 x8_2) < (t268.length : Int) := of_decide_eq_true (by first | (with_reducible assumption) | assumption)
      obtain ⟨ad283, e283, hx283_0⟩ := Kd.at_int (Kd.R_reads' HO_4.out).2.2 (rd t265 x8_2) p283 q283
      cases e283
      replace p283 := eq_true p283
      replace q283 := eq_true q283
      have p284 : 0 ≤ ((ji27) : Int) := of_decide_eq_true (by first | (with_reducible assumption) | assumption)
      have q284 : (ji27) < (t265.length : Int) := of_decide_eq_true (by first | (with_reducible assumption) | assumption)
      obtain ⟨ad284, e284, hx284_0⟩ := Kd.at_int (Kd.R_reads' HO_3.out).2.2 (ji27) p284 q284
      obtain rfl : ad282 = ad284 := (by injection e284)
      replace p284 := eq_true p284
      replace q284 := eq_true q284
      obtain ⟨Ao34, co34, eo34⟩ := Kd.R_slice HO_5.out
      subst eo34
      have p285 : 0 ≤ ((rd t265 (ji27)) : Int) := of_decide_eq_true (by first | (with_reducible assumption) | assumption)
      have q285 : (rd t265 (ji27)) < (t271.length : Int) := of_decide_eq_true (by first | (with_reducible assumption) | assumption)
      obtain ⟨ad285, e285, hx285_0⟩ := Kd.at_int (Kd.R_reads' HO_5.out).2.2 (rd t265 (ji27)) p285 q285
      cases e285
      replace p285 := eq_true p285
      replace q285 := eq_true q285
      go_wp2
      repeat (go_quiet (fail); try go_wp2)
      go_roundg k2
      case measure => have := HK1.out; have := HK2.out; omega
      case rel => exact ⟨(ji27), (by first | rfl | (simp; done) | (simp only [← hji27] <;> (first | rfl | simp)) | (simp [*]; done)), H', ⟨by have := HK1.out; have := HK2.out; omega⟩, ⟨bR HO_3.out⟩, ⟨bR HO_4.out⟩, ⟨bR HO_5.out⟩, ⟨bw HB.out⟩⟩
     rw [if_neg c32] at H
     have c32b0 : ((rd t268 (rd t265 x8_2)) == (rd t271 (rd t265 (ji27)))) = false := beq_eq_false_iff_ne.mpr c32
     have c32b1 : ((rd t268 (rd t265 x8_2)) != (rd t271 (rd t265 (ji27)))) = true := bne_iff_ne.mpr c32
     have c35b0 := eq_true (of_decide_eq_true (by first | (with_reducible assumption) | assumption) : 0 ≤ x8_2)
     by_cases c36 : x8_2 ≤ (wrap64 (x6_1 + 1))
     rotate_left
     ·rw [if_neg c36] at H
      exact absurd H (by simp)
     rw [if_pos c36] at H
     have c36b0 := eq_true c36
     have c36b1 : decide (x8_2 ≤ (wrap64 (x6_1 + 1))) = true := decide_eq_true c36
     by_cases c37 : (wrap64 (x6_1 + 1)) ≤ (t265.length : Int)
     rotate_left
     ·rw [if_neg c37] at H
      exact absurd H (by simp)
     rw [if_pos c37] at H
     have c37b0 := eq_true c37
     have c37b1 : decide ((wrap64 (x6_1 + 1)) ≤ (t265.length : Int)) = true := decide_eq_true c37
     obtain ⟨y286, hy286⟩ : ∃ y_ : List Int, y_ = ((t265.take ((wrap64 (x6_1 + 1)) : Int).toNat).drop (x8_2 : Int).toNat) := ⟨_, rfl⟩
     replace H : ((spec_l1Own.f y286).bind fun t290 => (some t290)) = some r := by first | (rw [hy286]; with_reducible exact H) | (have H2_ := (Option.bind_some _ _).symm.trans H; rw [hy286]; with_reducible exact H2_) | (have H2_ := (Option.bind_some _ _).symm.trans H; with_reducible exact H2_) | with_reducible exact H | (rw [hy286]; exact H) | exact H
     have Ny286 := Aside0.mk hy286
     clear hy286
     replace H := Option.bind_eq_some_iff.mp H
     obtain ⟨t290, A380, H⟩ := H
     replace H : (some t290) = some r := H
     have A38 := Aside0.mk A380
     clear A380
     obtain rfl := Option.some.inj H
     have p282 : 0 ≤ (x8_2 : Int) := of_decide_eq_true (by first | (with_reducible assumption) | assumption)
     have q282 : x8_2 < (t265.length : Int) := of_decide_eq_true (by first | (with_reducible assumption) | assumption)
     obtain ⟨ad282, e282, hx282_0⟩ := Kd.at_int (Kd.R_reads' HO_3.out).2.2 x8_2 p282 q282
     cases e282
     replace p282 := eq_true p282
     replace q282 := eq_true q282
     obtain ⟨Ao39, co39, eo39⟩ := Kd.R_slice HO_4.out
     subst eo39
     have p283 : 0 ≤ ((rd t265 x8_2) : Int) := of_decide_eq_true (by first | (with_reducible assumption) | assumption)
     have q283 : (rd t265 x8_2) < (t268.length : Int) := of_decide_eq_true (by first | (with_reducible assumption) | assumption)
     obtain ⟨ad283, e283, hx283_0⟩ := Kd.at_int (Kd.R_reads' HO_4.out).2.2 (rd t265 x8_2) p283 q283
     cases e283
     replace p283 := eq_true p283
     replace q283 := eq_true q283
     have p284 : 0 ≤ ((ji27) : Int) := of_decide_eq_true (by first | (with_reducible assumption) | assumption)
     have q284 : (ji27) < (t265.length : Int) := of_decide_eq_true (by first | (with_reducible assumption) | assumption)
     obtain ⟨ad284, e284, hx284_0⟩ := Kd.at_int (Kd.R_reads' HO_3.out).2.2 (ji27) p284 q284
     obtain rfl : ad282 = ad284 := (by injection e284)
     replace p284 := eq_true p284
     replace q284 := eq_true q284
     obtain ⟨Ao40, co40, eo40⟩ := Kd.R_slice HO_5.out
     subst eo40
     have p285 : 0 ≤ ((rd t265 (ji27)) : Int) := of_decide_eq_true (by first | (with_reducible assumption) | assumption)
     have q285 : (rd t265 (ji27)) < (t271.length : Int) := of_decide_eq_true (by first | (with_reducible assumption) | assumption)
     obtain ⟨ad285, e285, hx285_0⟩ := Kd.at_int (Kd.R_reads' HO_5.out).2.2 (rd t265 (ji27)) p285 q285
     cases e285
     replace p285 := eq_true p285
     replace q285 := eq_true q285
     have q41 : ((wrap64 (x6_1 + 1)) : Int) ≤ ((t265.length : Int) : Int) := of_decide_eq_true (by first | (with_reducible assumption) | assumption)
     obtain ⟨i041, hi041, _, hsz41, _⟩ := info_parts info3
     have hroom41 : t265.length ≤ co6 := (Kd.R_reads' HO_3.out).2.1
     have hC41 : Kd.C (Kd.int .i64) _ (some ad282) t265.length t265 := (Kd.R_reads' HO_3.out).2.2
     have ql41 : (x8_2 : Int) ≤ ((wrap64 (x6_1 + 1)) : Int) := of_decide_eq_true (by first | (with_reducible assumption) | assumption)
     have q041 : (0 : Int) ≤ (x8_2 : Int) := of_decide_eq_true (by first | (with_reducible assumption) | assumption)
     have hcut41 := cut_mid (P := Try.prog) 23 3 .i64 .i64 Try.underlying23 hi041 1 hsz41 (some ad282) t265.length co6 x8_2 (wrap64 (x6_1 + 1)) q041 ql41 q41 hroom41
     have hr41 := Kd.C_mid (lo := (x8_2 : Int).toNat) (hi := ((wrap64 (x6_1 + 1)) : Int).toNat) (c := co6) hC41 (by omega) (by omega) hroom41
     obtain ⟨A41, hA41⟩ : ∃ A1, A1 = (if co6 = (x8_2 : Int).toNat then (some ad282) else ((some ad282) : Option Addr).map (·.add ((x8_2 : Int).toNat * 1))) := ⟨_, rfl⟩
     obtain ⟨c41, hc41⟩ : ∃ c1, c1 = co6 - (x8_2 : Int).toNat := ⟨_, rfl⟩
     have hy41 : y286.length = ((wrap64 (x6_1 + 1)) : Int).toNat - (x8_2 : Int).toNat := (by rw [Ny286.out, List.length_drop, List.length_take] <;> omega)
     rw [show ((t265).take ((wrap64 (x6_1 + 1)) : Int).toNat).drop (x8_2 : Int).toNat = y286 from Ny286.out.symm] at hr41
     replace hr41 : Kd.C (Kd.int .i64) _ A41 y286.length y286 := (by rw [hA41]; exact hr41)
     rw [← hy41, ← hA41, ← hc41] at hcut41
     have HR289 := Aside0.mk hr41
     have HC289 := Aside0.mk (show y286.length ≤ c41 from by rw [hy41, hc41]; exact Nat.sub_le_sub_right (Nat.le_trans (by omega) hroom41) _)
     clear hr41 hC41 hroom41 hi041 hsz41 hc41
     have KY41 := Aside0.mk hy41
     have KA41 := Aside0.mk hA41
     clear hy41 hA41
     have KL41 := Aside0.mk (show ((wrap64 (x6_1 + 1)) : Int).toNat ≤ t265.length from by omega)
     have KM41 := Aside0.mk (show (x8_2 : Int).toNat ≤ ((wrap64 (x6_1 + 1)) : Int).toNat from by omega)
     replace q41 := eq_true q41
     have go_ := True.intro
     repeat ((first | go_quiet (first | (go_at_call 122; (with_reducible refine (spec_l1Own.calls _ _ y286 t290 _ ?side1 ?side2 A38.out).mono ?_); (case side1 => repeat (first | exact (by repeat (first | (with_reducible exact HR289.out) | (with_reducible refine Kd.C_alloc ?_ _) | (with_reducible refine Kd.C_drewN ?_ _) | (with_reducible refine Kd.C_drew ?_) | exact HR289.out)) | (with_reducible refine Kd.C_alloc ?_ _) | (with_reducible refine Kd.C_drewN ?_ _) | (with_reducible refine Kd.C_drew ?_))); (case side2 => exact HC289.out); rintro e w42 ⟨v291, rfl, ho0, hb⟩; have n0_ := Aside0.mk (Kd.R_elder' (bR HO_3.out) (Kd.R_base ho0) hb); have n1_ := Aside0.mk (Kd.R_elder' (bR HO_4.out) (Kd.R_base ho0) hb); have n2_ := Aside0.mk (Kd.R_elder' (bR HO_5.out) (Kd.R_base ho0) hb); have n3_ := Aside0.mk (Kd.R_lower (Kd.R_new' (Kd.R_new' (Kd.R_new' ho0 (Kd.R_lt (bR HO_3.out))) (Kd.R_lt (bR HO_4.out))) (Kd.R_lt (bR HO_5.out))) (below_size (bw HB.out))); have n4_ := Aside0.mk (Kd.C_below (by repeat (first | (with_reducible exact HR289.out) | (with_reducible refine Kd.C_alloc ?_ _) | (with_reducible refine Kd.C_drewN ?_ _) | (with_reducible refine Kd.C_drew ?_) | exact HR289.out)) hb); have n5_ := Aside0.mk (below_step (bw HB.out) hb); replace HO_3 := n0_; replace HO_4 := n1_; replace HO_5 := n2_; have HO292 := n3_; replace HR289 := n4_; replace HB := n5_; clear n0_ n1_ n2_ n3_ n4_ n5_; (try clear hb); (try clear hb2); (try clear hk); (try clear hi); (try clear ho0))) | clear go_); go_wp2_with (first | (go_at_call 122; (with_reducible refine (spec_l1Own.calls _ _ y286 t290 _ ?side1 ?side2 A38.out).mono ?_); (case side1 => repeat (first | exact (by repeat (first | (with_reducible exact HR289.out) | (with_reducible refine Kd.C_alloc ?_ _) | (with_reducible refine Kd.C_drewN ?_ _) | (with_reducible refine Kd.C_drew ?_) | exact HR289.out)) | (with_reducible refine Kd.C_alloc ?_ _) | (with_reducible refine Kd.C_drewN ?_ _) | (with_reducible refine Kd.C_drew ?_))); (case side2 => exact HC289.out); rintro e w42 ⟨v291, rfl, ho0, hb⟩; have n0_ := Aside0.mk (Kd.R_elder' (bR HO_3.out) (Kd.R_base ho0) hb); have n1_ := Aside0.mk (Kd.R_elder' (bR HO_4.out) (Kd.R_base ho0) hb); have n2_ := Aside0.mk (Kd.R_elder' (bR HO_5.out) (Kd.R_base ho0) hb); have n3_ := Aside0.mk (Kd.R_lower (Kd.R_new' (Kd.R_new' (Kd.R_new' ho0 (Kd.R_lt (bR HO_3.out))) (Kd.R_lt (bR HO_4.out))) (Kd.R_lt (bR HO_5.out))) (below_size (bw HB.out))); have n4_ := Aside0.mk (Kd.C_below (by repeat (first | (with_reducible exact HR289.out) | (with_reducible refine Kd.C_alloc ?_ _) | (with_reducible refine Kd.C_drewN ?_ _) | (with_reducible refine Kd.C_drew ?_) | exact HR289.out)) hb); have n5_ := Aside0.mk (below_step (bw HB.out) hb); replace HO_3 := n0_; replace HO_4 := n1_; replace HO_5 := n2_; have HO292 := n3_; replace HR289 := n4_; replace HB := n5_; clear n0_ n1_ n2_ n3_ n4_ n5_; (try clear hb); (try clear hb2); (try clear hk); (try clear hi); (try clear ho0))))
     go_ret
     exact ⟨_, by first | rfl | (simp [errW_none, errW_some] <;> rfl) | (simp only [← hji27]; first | rfl | (simp [errW_none, errW_some] <;> rfl)) | (simp [*, errW_none, errW_some] <;> rfl), by (with_reducible repeat (first | apply Kd.R_alloc | apply Kd.R_drewN | apply Kd.R_drew)); exact Kd.R_mono HO292.out (fun _ hk => trivial), bw HB.out⟩

/-! ### impl_others: function 178 -/
def impl_others.l0 : Nat → Int → List Int → List Int → Int → Option (List Int)
 | 0, _, _, _, _ => none
 | k + 1, x0, x1, x5, x6 => if x6 < x0 then ((impl_has.f k x1 x6).bind fun t316 => (if t316 = true then (impl_others.l0 k x0 x1 x5 (wrap64 (x6 + 1))) else (if x5.length < 17592186044416 then (impl_others.l0 k x0 x1 (x5 ++ [x6]) (wrap64 (x6 + 1))) else (none)))) else (some x5)
def impl_others.f (k : Nat) (a0 : Int) (l1 : List Int) : Option (List Int) := impl_others.l0 k a0 l1 ([] : List Int) 0
theorem impl_others.mono_l : ∀ k, (∀ y0 y1 y2 y3, LeO (impl_others.l0 k y0 y1 y2 y3) (impl_others.l0 (k + 1) y0 y1 y2 y3))
 | 0 => fun _ _ _ _ r h => by simp [impl_others.l0] at h
 | k + 1 => by
  have ih0 := impl_others.mono_l k
  ·intro y0 y1 y2 y3
   unfold impl_others.l0
   repeat' first
   | (with_reducible exact ih0 _ _ _ _)
   | (with_reducible exact impl_has.mono _ _ _)
   | (with_reducible exact LeO.refl _)
   | (with_reducible exact LeO.none _)
   | (with_reducible refine LeO.ite ?_ ?_)
   | (with_reducible refine LeO.bind ?_ (fun _ => ?_))
   | exact ih0 _ _ _ _
   | exact impl_has.mono _ _ _
   | exact LeO.none _
   | refine LeO.ite ?_ ?_
   | refine LeO.bind ?_ (fun _ => ?_)
theorem impl_others.mono : ∀ a0 a1 k, LeO (impl_others.f k a0 a1) (impl_others.f (k + 1) a0 a1) := by
 intro a0 a1 k
 have ih0 := impl_others.mono_l k
 unfold impl_others.f
 repeat' first
   | (with_reducible exact ih0 _ _ _ _)
   | (with_reducible exact impl_has.mono _ _ _)
   | (with_reducible exact LeO.refl _)
   | (with_reducible exact LeO.none _)
   | (with_reducible refine LeO.ite ?_ ?_)
   | (with_reducible refine LeO.bind ?_ (fun _ => ?_))
   | exact ih0 _ _ _ _
   | exact impl_has.mono _ _ _
   | exact LeO.none _
   | refine LeO.ite ?_ ?_
   | refine LeO.bind ?_ (fun _ => ?_)
set_option maxHeartbeats 8000000 in
set_option maxRecDepth 100000 in
theorem impl_others.calls (k : Nat) (a0 : Int) (A1 : Option Addr) (c1 : Nat) (l1 : List Int) (r : List Int) (w : World) (hr1 : Kd.C (Kd.int .i64) w A1 l1.length l1) (hc1 : l1.length ≤ c1) (h : impl_others.f k a0 l1 = some r) :
  Calls Try.prog 178 #[.int .i64 a0, .slice A1 l1.length c1] w fun e w' => ∃ v0_ : Value, e = .returned (v0_) ∧ Kd.R (Kd.int .i64) 3 w' w.heap.size (fun _ => True) v0_ r ∧ Below w.heap.size w w' := by
 have HR1 := Aside0.mk hr1
 have HC1 := Aside0.mk hc1
 clear hr1 hc1
 have HB := Aside0.mk (Below.refl w.heap.size w)
 have H : (impl_others.l0 k a0 l1 ([] : List Int) 0) = some r := h
 clear h
 have H' := Aside0.mk H
 clear H
 go_enter Try.func178, Try.ntmps178
 go_wp2
 go_loopg [5, 6] k (fun kq v5 v6 w' => ∃ (x5_1 : List Int) (x6_1 : Int), v6 = .int .i64 x6_1 ∧ Aside0 (impl_others.l0 kq a0 l1 x5_1 x6_1 = some r) ∧ Aside0 (kq ≤ k) ∧ Aside0 (Kd.R (Kd.int .i64) 3 w' w.heap.size (fun _ => True) v5 x5_1) ∧ Aside0 (Below w.heap.size w w'))
 case atStart => exact ⟨(([] : List Int)), (0), (by first | rfl | (simp; done) | (simp [*]; done)), H', ⟨Nat.le_refl _⟩, ⟨by first | exact Kd.R_nil _ _ _ _ _ | exact Kd.N_nil _ _ _ _ _ | exact Kd.V_nil _ _ _ _ _ | exact Kd.Q_nil _ _ _ _ _ | exact Kd.S_nil _ _ _ _ _⟩, ⟨bw HB.out⟩⟩
 case round =>
  clear H'
  try clear c1
  try clear p2
  obtain ⟨x5_1, x6_1, rfl, HA, HK1, HO_5, HB⟩ := hrel
  cases gk with
  | zero => exact absurd HA.out (by simp [impl_others.l0])
  | succ k1 =>
   have H := HA.out
   clear HA
   simp only [impl_others.l0] at H
   by_cases c3 : x6_1 < a0
   rotate_left
   ·rw [if_neg c3] at H
    have c3b0 : decide (x6_1 < a0) = false := decide_eq_false c3
    clear c3
    obtain rfl := Option.some.inj H
    go_wp2
    go_ret
    exact ⟨_, by first | rfl | (simp [errW_none, errW_some] <;> rfl) | (simp [*, errW_none, errW_some] <;> rfl), by (with_reducible repeat (first | apply Kd.R_alloc | apply Kd.R_drewN | apply Kd.R_drew)); exact HO_5.out, bw HB.out⟩
   rw [if_pos c3] at H
   have c3b0 : decide (x6_1 < a0) = true := decide_eq_true c3
   clear c3
   replace H := Option.bind_eq_some_iff.mp H
   obtain ⟨t316, A40, H⟩ := H
   replace H : (if t316 = true then (impl_others.l0 k1 a0 l1 x5_1 (wrap64 (x6_1 + 1))) else (if x5_1.length < 17592186044416 then (impl_others.l0 k1 a0 l1 (x5_1 ++ [x6_1]) (wrap64 (x6_1 + 1))) else (none))) = some r := H
   have A4 := Aside0.mk A40
   clear A40
   by_cases c5 : t316 = true
   ·subst c5
    have H1 : (impl_others.l0 k1 a0 l1 x5_1 (wrap64 (x6_1 + 1))) = some r := by rw [if_pos rfl] at H; exact H
    clear H
    have H := H1
    clear H1
    have H' := Aside0.mk H
    clear H
    go_wp2_with (first | ((with_reducible refine gate_callee (f := 151) rfl ?_); refine goesL_ (some 14) rfl rfl Try.func151 (by kernel_rfl) rfl #[.slice A1 l1.length c1, .int .i64 x6_1] rfl (by (try simp only [mA_]); first | done | rfl | (simp only [List.length_drop, List.length_take]; rfl)) ?_; (with_reducible refine (impl_has.calls k1 _ _ l1 x6_1 true _ ?side1 ?side2 A4.out).mono ?_); (case side1 => first | exact bC HR1.out HB.out | exact Kd.C_below HR1.out HB.out); (case side2 => exact HC1.out); rintro e w' ⟨rfl, ⟨nd, rfl⟩⟩; refine ⟨_, rfl, ?_⟩))
    go_roundg k1
    case measure => have := HK1.out; omega
    case rel => exact ⟨(x5_1), (wrap64 (x6_1 + 1)), (by first | rfl | (simp; done) | (simp [*]; done)), H', ⟨by have := HK1.out; omega⟩, ⟨bR HO_5.out⟩, ⟨bw HB.out⟩⟩
   replace c5 := Bool.eq_false_iff.mpr c5
   subst c5
   have H1 : (if x5_1.length < 17592186044416 then (impl_others.l0 k1 a0 l1 (x5_1 ++ [x6_1]) (wrap64 (x6_1 + 1))) else (none)) = some r := by rw [if_neg (show ¬ (false = true) by decide)] at H; exact H
   clear H
   have H := H1
   clear H1
   by_cases c6 : x5_1.length < 17592186044416
   rotate_left
   ·rw [if_neg c6] at H
    exact absurd H (by simp)
   rw [if_pos c6] at H
   have LMc6 := Aside0.mk c6
   clear c6
   obtain ⟨y317, hy317⟩ : ∃ y_ : List Int, y_ = (x5_1 ++ [x6_1]) := ⟨_, rfl⟩
   replace H : (impl_others.l0 k1 a0 l1 y317 (wrap64 (x6_1 + 1))) = some r := by first | (rw [hy317]; with_reducible exact H) | (have H2_ := (Option.bind_some _ _).symm.trans H; rw [hy317]; with_reducible exact H2_) | (have H2_ := (Option.bind_some _ _).symm.trans H; with_reducible exact H2_) | with_reducible exact H | (rw [hy317]; exact H) | exact H
   have Ny317 := Aside0.mk hy317
   clear hy317
   have H' := Aside0.mk H
   clear H
   go_wp2_with (first | ((with_reducible refine gate_callee (f := 151) rfl ?_); refine goesL_ (some 14) rfl rfl Try.func151 (by kernel_rfl) rfl #[.slice A1 l1.length c1, .int .i64 x6_1] rfl (by (try simp only [mA_]); first | done | rfl | (simp only [List.length_drop, List.length_take]; rfl)) ?_; (with_reducible refine (impl_has.calls k1 _ _ l1 x6_1 false _ ?side1 ?side2 A4.out).mono ?_); (case side1 => first | exact bC HR1.out HB.out | exact Kd.C_below HR1.out HB.out); (case side2 => exact HC1.out); rintro e w' ⟨rfl, ⟨nd, rfl⟩⟩; refine ⟨_, rfl, ?_⟩) | ((with_reducible refine gate_builtin (b := .append) (xs := #[.tmp 16, .tmp 18]) rfl ?_); at_builtin; refine Kd.R_append (Kd.int .i64) (w0 := w) w.heap.size rfl (.tmp 16) (.tmp 18) 23 3 (.int .i64 0) 8 rfl Try.underlying23 info3 rfl (by decide) (by omega) u5 x5_1 x6_1 [.int .i64 x6_1] (fun _ => True) (fun _ => False) rfl rfl ?aP (fun _ hk => hk.elim) ?aF ?aO ?aB ?aS ?aL ?_; (case aP => exact rfl); (case aB => exact (bw HB.out)); (case aF => exact (fun _ _ => trivial)); (case aO => exact (bR HO_5.out)); (case aS => exact (below_size (bw HB.out))); (case aL => have := LMc6.out; omega); intro v318 w7 ho hb hg hat; rw [← Ny317.out] at ho; have n0_ := Aside0.mk (hb); have n1_ := Aside0.mk (ho); clear HO_5; replace HB := n0_; have HO319 := n1_; clear n0_ n1_; clear ho hb hg hat))
   go_roundg k1
   case measure => have := HK1.out; omega
   case rel => exact ⟨(y317), (wrap64 (x6_1 + 1)), (by first | rfl | (simp; done) | (simp [*]; done)), H', ⟨by have := HK1.out; omega⟩, ⟨bR HO319.out⟩, ⟨bw HB.out⟩⟩

/-! ### impl_greedyOrder: function 145 -/
mutual
def impl_greedyOrder.l0 : Nat → List (S89) → List Int → Int → Option (List Int)
 | 0, _, _, _ => none
 | k + 1, x0, x3, x4 => if (x3.length : Int) < (x0.length : Int) then ((impl_others.f k (x0.length : Int) x3).bind fun t320 => (impl_greedyOrder.l1 k x0 x3 x4 t320 1000 t320 (t320.length : Int) 0)) else (some x3)
def impl_greedyOrder.l1 : Nat → List (S89) → List Int → Int → List Int → Int → List Int → Int → Int → Option (List Int)
 | 0, _, _, _, _, _, _, _, _ => none
 | k + 1, x0, x3, x4, x5, x6, x21, x22, x23 => if x23 < x22 then (if 0 ≤ x23 then (if x23 < (x21.length : Int) then (if 0 ≤ (rd x21 x23) then (if (rd x21 x23) < (x0.length : Int) then (impl_greedyOrder.l1 k x0 x3 x4 x5 (mn x6 (mx x4 ((rd_T89 x0 (rd x21 x23)).f2))) x21 x22 (wrap64 (x23 + 1))) else (none)) else (none)) else (none)) else (none)) else (impl_greedyOrder.l2 k x0 x3 x6 (-1) x5 (x5.length : Int) 0)
def impl_greedyOrder.l2 : Nat → List (S89) → List Int → Int → Int → List Int → Int → Int → Option (List Int)
 | 0, _, _, _, _, _, _, _ => none
 | k + 1, x0, x3, x6, x9, x37, x38, x39 => if x39 < x38 then (if 0 ≤ x39 then (if x39 < (x37.length : Int) then (if 0 ≤ (rd x37 x39) then (if (rd x37 x39) < (x0.length : Int) then (if ((rd_T89 x0 (rd x37 x39)).f2) ≤ x6 then (if x9 < 0 then (impl_greedyOrder.l2 k x0 x3 x6 (rd x37 x39) x37 x38 (wrap64 (x39 + 1))) else (if 0 ≤ x9 then (if x9 < (x0.length : Int) then (if ((rd_T89 x0 (rd x37 x39)).f3) < ((rd_T89 x0 x9).f3) then (impl_greedyOrder.l2 k x0 x3 x6 (rd x37 x39) x37 x38 (wrap64 (x39 + 1))) else (impl_greedyOrder.l2 k x0 x3 x6 x9 x37 x38 (wrap64 (x39 + 1)))) else (none)) else (none))) else (impl_greedyOrder.l2 k x0 x3 x6 x9 x37 x38 (wrap64 (x39 + 1)))) else (none)) else (none)) else (none)) else (none)) else (if x3.length < 17592186044416 then (if 0 ≤ x9 then (if x9 < (x0.length : Int) then (impl_greedyOrder.l0 k x0 (x3 ++ [x9]) (wrap64 (x6 + ((rd_T89 x0 x9).f0)))) else (none)) else (none)) else (none))
end
def impl_greedyOrder.f (k : Nat) (l0 : List (S89)) : Option (List Int) := impl_greedyOrder.l0 k l0 ([] : List Int) 0
theorem impl_greedyOrder.mono_l : ∀ k, (∀ y0 y1 y2, LeO (impl_greedyOrder.l0 k y0 y1 y2) (impl_greedyOrder.l0 (k + 1) y0 y1 y2)) ∧ (∀ y0 y1 y2 y3 y4 y5 y6 y7, LeO (impl_greedyOrder.l1 k y0 y1 y2 y3 y4 y5 y6 y7) (impl_greedyOrder.l1 (k + 1) y0 y1 y2 y3 y4 y5 y6 y7)) ∧ (∀ y0 y1 y2 y3 y4 y5 y6, LeO (impl_greedyOrder.l2 k y0 y1 y2 y3 y4 y5 y6) (impl_greedyOrder.l2 (k + 1) y0 y1 y2 y3 y4 y5 y6))
 | 0 => ⟨fun _ _ _ r h => by simp [impl_greedyOrder.l0] at h, fun _ _ _ _ _ _ _ _ r h => by simp [impl_greedyOrder.l1] at h, fun _ _ _ _ _ _ _ r h => by simp [impl_greedyOrder.l2] at h⟩
 | k + 1 => by
  obtain ⟨ih0, ih1, ih2⟩ := impl_greedyOrder.mono_l k
  refine ⟨?_, ?_, ?_⟩
  ·intro y0 y1 y2
   unfold impl_greedyOrder.l0
   repeat' first
   | (with_reducible exact ih0 _ _ _)
   | (with_reducible exact ih1 _ _ _ _ _ _ _ _)
   | (with_reducible exact ih2 _ _ _ _ _ _ _)
   | (with_reducible exact impl_others.mono _ _ _)
   | (with_reducible exact LeO.refl _)
   | (with_reducible exact LeO.none _)
   | (with_reducible refine LeO.ite ?_ ?_)
   | (with_reducible refine LeO.bind ?_ (fun _ => ?_))
   | exact ih0 _ _ _
   | exact ih1 _ _ _ _ _ _ _ _
   | exact ih2 _ _ _ _ _ _ _
   | exact impl_others.mono _ _ _
   | exact LeO.none _
   | refine LeO.ite ?_ ?_
   | refine LeO.bind ?_ (fun _ => ?_)
  ·intro y0 y1 y2 y3 y4 y5 y6 y7
   unfold impl_greedyOrder.l1
   repeat' first
   | (with_reducible exact ih0 _ _ _)
   | (with_reducible exact ih1 _ _ _ _ _ _ _ _)
   | (with_reducible exact ih2 _ _ _ _ _ _ _)
   | (with_reducible exact impl_others.mono _ _ _)
   | (with_reducible exact LeO.refl _)
   | (with_reducible exact LeO.none _)
   | (with_reducible refine LeO.ite ?_ ?_)
   | (with_reducible refine LeO.bind ?_ (fun _ => ?_))
   | exact ih0 _ _ _
   | exact ih1 _ _ _ _ _ _ _ _
   | exact ih2 _ _ _ _ _ _ _
   | exact impl_others.mono _ _ _
   | exact LeO.none _
   | refine LeO.ite ?_ ?_
   | refine LeO.bind ?_ (fun _ => ?_)
  ·intro y0 y1 y2 y3 y4 y5 y6
   unfold impl_greedyOrder.l2
   repeat' first
   | (with_reducible exact ih0 _ _ _)
   | (with_reducible exact ih1 _ _ _ _ _ _ _ _)
   | (with_reducible exact ih2 _ _ _ _ _ _ _)
   | (with_reducible exact impl_others.mono _ _ _)
   | (with_reducible exact LeO.refl _)
   | (with_reducible exact LeO.none _)
   | (with_reducible refine LeO.ite ?_ ?_)
   | (with_reducible refine LeO.bind ?_ (fun _ => ?_))
   | exact ih0 _ _ _
   | exact ih1 _ _ _ _ _ _ _ _
   | exact ih2 _ _ _ _ _ _ _
   | exact impl_others.mono _ _ _
   | exact LeO.none _
   | refine LeO.ite ?_ ?_
   | refine LeO.bind ?_ (fun _ => ?_)
theorem impl_greedyOrder.mono : ∀ a0 k, LeO (impl_greedyOrder.f k a0) (impl_greedyOrder.f (k + 1) a0) := by
 intro a0 k
 obtain ⟨ih0, ih1, ih2⟩ := impl_greedyOrder.mono_l k
 unfold impl_greedyOrder.f
 repeat' first
   | (with_reducible exact ih0 _ _ _)
   | (with_reducible exact ih1 _ _ _ _ _ _ _ _)
   | (with_reducible exact ih2 _ _ _ _ _ _ _)
   | (with_reducible exact impl_others.mono _ _ _)
   | (with_reducible exact LeO.refl _)
   | (with_reducible exact LeO.none _)
   | (with_reducible refine LeO.ite ?_ ?_)
   | (with_reducible refine LeO.bind ?_ (fun _ => ?_))
   | exact ih0 _ _ _
   | exact ih1 _ _ _ _ _ _ _ _
   | exact ih2 _ _ _ _ _ _ _
   | exact impl_others.mono _ _ _
   | exact LeO.none _
   | refine LeO.ite ?_ ?_
   | refine LeO.bind ?_ (fun _ => ?_)
set_option maxHeartbeats 8000000 in
set_option maxRecDepth 100000 in
theorem impl_greedyOrder.calls (k : Nat) (A0 : Option Addr) (c0 : Nat) (l0 : List (S89)) (r : List Int) (w : World) (hr0 : Kd.C k89 w A0 l0.length l0) (hc0 : l0.length ≤ c0) (h : impl_greedyOrder.f k l0 = some r) :
  Calls Try.prog 145 #[.slice A0 l0.length c0] w fun e w' => ∃ v0_ : Value, e = .returned (v0_) ∧ Kd.R (Kd.int .i64) 3 w' w.heap.size (fun _ => True) v0_ r ∧ Below w.heap.size w w' := by
 have HR0 := Aside0.mk hr0
 have HC0 := Aside0.mk hc0
 clear hr0 hc0
 have HB := Aside0.mk (Below.refl w.heap.size w)
 have H : (impl_greedyOrder.l0 k l0 ([] : List Int) 0) = some r := h
 clear h
 have H' := Aside0.mk H
 clear H
 go_enter Try.func145, Try.ntmps145
 go_wp2
 repeat (go_quiet (fail); try go_wp2)
 go_loopg [3, 4] k (fun kq v3 v4 w' => ∃ (x3_1 : List Int) (x4_1 : Int), v4 = .int .i64 x4_1 ∧ Aside0 (impl_greedyOrder.l0 kq l0 x3_1 x4_1 = some r) ∧ Aside0 (kq ≤ k) ∧ Aside0 (Kd.R (Kd.int .i64) 3 w' w.heap.size (fun _ => True) v3 x3_1) ∧ Aside0 (Below w.heap.size w w'))
 case atStart => exact ⟨(([] : List Int)), (0), (by first | rfl | (simp; done) | (simp [*]; done)), H', ⟨Nat.le_refl _⟩, ⟨by first | exact Kd.R_nil _ _ _ _ _ | exact Kd.N_nil _ _ _ _ _ | exact Kd.V_nil _ _ _ _ _ | exact Kd.Q_nil _ _ _ _ _ | exact Kd.S_nil _ _ _ _ _⟩, ⟨bw HB.out⟩⟩
 case round =>
  clear H'
  try clear c1
  obtain ⟨x3_1, x4_1, rfl, HA, HK1, HO_3, HB⟩ := hrel
  cases gk with
  | zero => exact absurd HA.out (by simp [impl_greedyOrder.l0])
  | succ k1 =>
   have H := HA.out
   clear HA
   simp only [impl_greedyOrder.l0] at H
   by_cases c2 : (x3_1.length : Int) < (l0.length : Int)
   rotate_left
   ·rw [if_neg c2] at H
    have c2b0 : decide ((x3_1.length : Int) < (l0.length : Int)) = false := decide_eq_false c2
    have c2b1 : decide (x3_1.length < l0.length) = false := decide_eq_false (fun h => c2 (Int.ofNat_lt.mpr h))
    clear c2
    obtain rfl := Option.some.inj H
    obtain ⟨Ao28, co28, eo28⟩ := Kd.R_slice HO_3.out
    subst eo28
    go_wp2
    repeat (go_quiet (fail); try go_wp2)
    go_ret
    exact ⟨_, by first | rfl | (simp [errW_none, errW_some] <;> rfl) | (simp [*, errW_none, errW_some] <;> rfl), by (with_reducible repeat (first | apply Kd.R_alloc | apply Kd.R_drewN | apply Kd.R_drew)); exact HO_3.out, bw HB.out⟩
   rw [if_pos c2] at H
   have c2b0 : decide ((x3_1.length : Int) < (l0.length : Int)) = true := decide_eq_true c2
   have c2b1 : decide (x3_1.length < l0.length) = true := decide_eq_true (Int.ofNat_lt.mp c2)
   clear c2
   replace H := Option.bind_eq_some_iff.mp H
   obtain ⟨t320, A30, H⟩ := H
   replace H : (impl_greedyOrder.l1 k1 l0 x3_1 x4_1 t320 1000 t320 (t320.length : Int) 0) = some r := H
   have A3 := Aside0.mk A30
   clear A30
   have H' := Aside0.mk H
   clear H
   obtain ⟨Ao4, co4, eo4⟩ := Kd.R_slice HO_3.out
   subst eo4
   have go_ := True.intro
   repeat ((first | go_quiet (first | (go_at_call 178; (with_reducible refine (impl_others.calls k1 (l0.length : Int) _ _ x3_1 t320 _ ?side1 ?side2 A3.out).mono ?_); (case side1 => repeat (first | exact (Kd.R_reads' HO_3.out).2.2 | (with_reducible refine Kd.C_alloc ?_ _) | (with_reducible refine Kd.C_drewN ?_ _) | (with_reducible refine Kd.C_drew ?_))); (case side2 => exact (Kd.R_reads' HO_3.out).2.1); rintro e w5 ⟨v321, rfl, ho0, hb⟩; have n0_ := Aside0.mk (Kd.R_elder' (bR HO_3.out) (Kd.R_base ho0) hb); have n1_ := Aside0.mk (Kd.R_lower (Kd.R_new' ho0 (Kd.R_lt (bR HO_3.out))) (below_size (bw HB.out))); have n2_ := Aside0.mk (below_step (bw HB.out) hb); replace HO_3 := n0_; have HO322 := n1_; replace HB := n2_; clear n0_ n1_ n2_; (try clear hb); (try clear hb2); (try clear hk); (try clear hi); (try clear ho0); obtain ⟨Ao6, co6, eo6⟩ := Kd.R_slice HO322.out; subst eo6)) | clear go_); go_wp2_with (first | (go_at_call 178; (with_reducible refine (impl_others.calls k1 (l0.length : Int) _ _ x3_1 t320 _ ?side1 ?side2 A3.out).mono ?_); (case side1 => repeat (first | exact (Kd.R_reads' HO_3.out).2.2 | (with_reducible refine Kd.C_alloc ?_ _) | (with_reducible refine Kd.C_drewN ?_ _) | (with_reducible refine Kd.C_drew ?_))); (case side2 => exact (Kd.R_reads' HO_3.out).2.1); rintro e w5 ⟨v321, rfl, ho0, hb⟩; have n0_ := Aside0.mk (Kd.R_elder' (bR HO_3.out) (Kd.R_base ho0) hb); have n1_ := Aside0.mk (Kd.R_lower (Kd.R_new' ho0 (Kd.R_lt (bR HO_3.out))) (below_size (bw HB.out))); have n2_ := Aside0.mk (below_step (bw HB.out) hb); replace HO_3 := n0_; have HO322 := n1_; replace HB := n2_; clear n0_ n1_ n2_; (try clear hb); (try clear hb2); (try clear hk); (try clear hi); (try clear ho0); obtain ⟨Ao6, co6, eo6⟩ := Kd.R_slice HO322.out; subst eo6)))
   go_loopg [6, 23] k1 (fun kq v6 v23 w' => ∃ (x6_2 : Int) (x23_2 : Int), v6 = .int .i64 x6_2 ∧ v23 = .int .i64 x23_2 ∧ Aside0 (impl_greedyOrder.l1 kq l0 x3_1 x4_1 t320 x6_2 t320 (t320.length : Int) x23_2 = some r) ∧ Aside0 (kq ≤ k1) ∧ Aside0 (Kd.R (Kd.int .i64) 3 w' w.heap.size (fun k_ => some k_ ≠ ((.slice Ao6 t320.length co6) : Value).ownBlock ∧ some k_ ≠ ((.slice Ao6 t320.length co6) : Value).ownBlock) (.slice Ao4 x3_1.length co4) x3_1) ∧ Aside0 (Kd.R (Kd.int .i64) 3 w' w.heap.size (fun k_ => some k_ ≠ ((.slice Ao4 x3_1.length co4) : Value).ownBlock) (.slice Ao6 t320.length co6) t320) ∧ Aside0 (Kd.R (Kd.int .i64) 3 w' w.heap.size (fun k_ => some k_ ≠ ((.slice Ao4 x3_1.length co4) : Value).ownBlock) (.slice Ao6 t320.length co6) t320) ∧ Aside0 (Below w.heap.size w w'))
   case atStart => exact ⟨(1000), (0), (by first | rfl | (simp; done) | (simp [*]; done)), (by first | rfl | (simp; done) | (simp [*]; done)), H', ⟨Nat.le_refl _⟩, ⟨by (with_reducible repeat (first | apply Kd.R_alloc | apply Kd.R_drewN | apply Kd.R_drew)); exact Kd.R_mono HO_3.out (fun _ hk => ⟨hk.2, hk.2⟩)⟩, ⟨by (with_reducible repeat (first | apply Kd.R_alloc | apply Kd.R_drewN | apply Kd.R_drew)); exact Kd.R_mono HO322.out (fun _ hk => hk.2)⟩, ⟨by (with_reducible repeat (first | apply Kd.R_alloc | apply Kd.R_drewN | apply Kd.R_drew)); exact Kd.R_mono HO322.out (fun _ hk => hk.2)⟩, ⟨bw HB.out⟩⟩
   case round =>
    clear H'
    try clear c1
    try clear c2
    try clear c2b0
    try clear c2b1
    try clear p2
    obtain ⟨x6_2, x23_2, rfl, rfl, HA, HK2, HO_3, HO_5, HO_21, HB⟩ := hrel
    cases gk with
    | zero => exact absurd HA.out (by simp [impl_greedyOrder.l1])
    | succ k2 =>
     have H := HA.out
     clear HA
     simp only [impl_greedyOrder.l1] at H
     by_cases c7 : x23_2 < (t320.length : Int)
     ·rw [if_pos c7] at H
      have c7b0 : decide (x23_2 < (t320.length : Int)) = true := decide_eq_true c7
      clear c7
      by_cases c8 : 0 ≤ x23_2
      rotate_left
      ·rw [if_neg c8] at H
       exact absurd H (by simp)
      rw [if_pos c8] at H
      have c8b0 : decide (0 ≤ x23_2) = true := decide_eq_true c8
      clear c8
      by_cases c9 : x23_2 < (t320.length : Int)
      rotate_left
      ·rw [if_neg c9] at H
       exact absurd H (by simp)
      rw [if_pos c9] at H
      have c9b0 : decide (x23_2 < (t320.length : Int)) = true := decide_eq_true c9
      clear c9
      by_cases c10 : 0 ≤ (rd t320 x23_2)
      rotate_left
      ·rw [if_neg c10] at H
       exact absurd H (by simp)
      rw [if_pos c10] at H
      have c10b0 : decide (0 ≤ (rd t320 x23_2)) = true := decide_eq_true c10
      clear c10
      by_cases c11 : (rd t320 x23_2) < (l0.length : Int)
      rotate_left
      ·rw [if_neg c11] at H
       exact absurd H (by simp)
      rw [if_pos c11] at H
      have c11b0 : decide ((rd t320 x23_2) < (l0.length : Int)) = true := decide_eq_true c11
      clear c11
      obtain ⟨ji12, hji12⟩ : ∃ j_ : Int, (mx x4_1 ((rd_T89 l0 (rd t320 x23_2)).f2)) = j_ := ⟨_, rfl⟩
      replace H : (impl_greedyOrder.l1 k2 l0 x3_1 x4_1 t320 (mn x6_2 (ji12)) t320 (t320.length : Int) (wrap64 (x23_2 + 1))) = some r := by first | (rw [hji12] at H; exact H) | (simp only [hji12] at H ⊢; exact H)
      have hji12_ : (if x4_1 < ((rd_T89 l0 (rd t320 x23_2)).f2) then ((rd_T89 l0 (rd t320 x23_2)).f2) else x4_1) = ji12 := hji12
      obtain ⟨ji13, hji13⟩ : ∃ j_ : Int, (mn x6_2 (ji12)) = j_ := ⟨_, rfl⟩
      replace H : (impl_greedyOrder.l1 k2 l0 x3_1 x4_1 t320 ji13 t320 (t320.length : Int) (wrap64 (x23_2 + 1))) = some r := by first | (rw [hji13] at H; exact H) | (simp only [hji13] at H ⊢; exact H)
      have hji13_ : (if (ji12) < x6_2 then (ji12) else x6_2) = ji13 := hji13
      have H' := Aside0.mk H
      clear H
      have p323 : 0 ≤ (x23_2 : Int) := of_decide_eq_true (by first | (with_reducible assumption) | assumption)
      have q323 : x23_2 < (t320.length : Int) := of_decide_eq_true (by first | (with_reducible assumption) | assumption)
      obtain ⟨ad323, e323, hx323_0⟩ := Kd.at_int (Kd.R_reads' HO_21.out).2.2 x23_2 p323 q323
      cases e323
      replace p323 := eq_true p323
      replace q323 := eq_true q323
      have p324 : 0 ≤ ((rd t320 x23_2) : Int) := of_decide_eq_true (by first | (with_reducible assumption) | assumption)
      have q324 : (rd t320 x23_2) < (l0.length : Int) := of_decide_eq_true (by first | (with_reducible assumption) | assumption)
      obtain ⟨ad324, e324, hx324_0, hx324_1, hx324_2, hx324_3⟩ := at_T89 HR0.out (rd t320 x23_2) p324 q324
      cases e324
      replace hx324_0 := (HB.out.cell (World.block_lt_of_cell? w _ hx324_0)).trans hx324_0
      replace hx324_1 := (HB.out.cell (World.block_lt_of_cell? w _ hx324_1)).trans hx324_1
      replace hx324_2 := (HB.out.cell (World.block_lt_of_cell? w _ hx324_2)).trans hx324_2
      replace hx324_3 := (HB.out.cell (World.block_lt_of_cell? w _ hx324_3)).trans hx324_3
      replace p324 := eq_true p324
      replace q324 := eq_true q324
      go_wp2
      repeat (go_quiet (fail); try go_wp2)
      go_roundg k2
      case measure => have := HK1.out; have := HK2.out; omega
      case rel => exact ⟨(ji13), (wrap64 (x23_2 + 1)), (by first | rfl | (simp; done) | (simp only [← hji13] <;> (first | rfl | simp)) | (simp [*]; done)), (by first | rfl | (simp; done) | (simp [*]; done)), H', ⟨by have := HK1.out; have := HK2.out; omega⟩, ⟨bR HO_3.out⟩, ⟨bR HO_5.out⟩, ⟨bR HO_21.out⟩, ⟨bw HB.out⟩⟩
     rw [if_neg c7] at H
     have c7b0 : decide (x23_2 < (t320.length : Int)) = false := decide_eq_false c7
     clear c7
     have H' := Aside0.mk H
     clear H
     go_wp2
     repeat (go_quiet (fail); try go_wp2)
     go_loopg [9, 39] k2 (fun kq v9 v39 w' => ∃ (x9_3 : Int) (x39_3 : Int), v9 = .int .i64 x9_3 ∧ v39 = .int .i64 x39_3 ∧ Aside0 (impl_greedyOrder.l2 kq l0 x3_1 x6_2 x9_3 t320 (t320.length : Int) x39_3 = some r) ∧ Aside0 (kq ≤ k2) ∧ Aside0 (Kd.R (Kd.int .i64) 3 w' w.heap.size (fun k_ => some k_ ≠ ((.slice Ao6 t320.length co6) : Value).ownBlock) (.slice Ao4 x3_1.length co4) x3_1) ∧ Aside0 (Kd.R (Kd.int .i64) 3 w' w.heap.size (fun k_ => some k_ ≠ ((.slice Ao4 x3_1.length co4) : Value).ownBlock) (.slice Ao6 t320.length co6) t320) ∧ Aside0 (Below w.heap.size w w'))
     case atStart => exact ⟨((-1)), (0), (by first | rfl | (simp; done) | (simp [*]; done)), (by first | rfl | (simp; done) | (simp [*]; done)), H', ⟨Nat.le_refl _⟩, ⟨by (with_reducible repeat (first | apply Kd.R_alloc | apply Kd.R_drewN | apply Kd.R_drew)); exact Kd.R_mono HO_3.out (fun _ hk => hk.1)⟩, ⟨bR HO_5.out⟩, ⟨bw HB.out⟩⟩
     case round =>
      clear H'
      try clear c1
      try clear c2
      try clear c2b0
      try clear c2b1
      try clear p2
      try clear p3
      try clear q3
      try clear hx3
      try clear p6
      try clear c7
      try clear c7b0
      try clear c8
      try clear c8b0
      try clear c9
      try clear c9b0
      try clear c10
      try clear c10b0
      try clear c11
      try clear c11b0
      try clear hx323_0
      try clear hx324_0
      try clear hx324_1
      try clear hx324_2
      try clear hx324_3
      try clear p2
      try clear p323
      try clear p324
      try clear q323
      try clear q324
      obtain ⟨x9_3, x39_3, rfl, rfl, HA, HK3, HO_3, HO_37, HB⟩ := hrel
      cases gk with
      | zero => exact absurd HA.out (by simp [impl_greedyOrder.l2])
      | succ k3 =>
       have H := HA.out
       clear HA
       simp only [impl_greedyOrder.l2] at H
       by_cases c14 : x39_3 < (t320.length : Int)
       rotate_left
       ·rw [if_neg c14] at H
        have c14b0 : decide (x39_3 < (t320.length : Int)) = false := decide_eq_false c14
        clear c14
        by_cases c24 : x3_1.length < 17592186044416
        rotate_left
        ·rw [if_neg c24] at H
         exact absurd H (by simp)
        rw [if_pos c24] at H
        have LMc24 := Aside0.mk c24
        clear c24
        obtain ⟨y329, hy329⟩ : ∃ y_ : List Int, y_ = (x3_1 ++ [x9_3]) := ⟨_, rfl⟩
        replace H : (if 0 ≤ x9_3 then (if x9_3 < (l0.length : Int) then (impl_greedyOrder.l0 k3 l0 y329 (wrap64 (x6_2 + ((rd_T89 l0 x9_3).f0)))) else (none)) else (none)) = some r := by first | (rw [hy329]; with_reducible exact H) | (have H2_ := (Option.bind_some _ _).symm.trans H; rw [hy329]; with_reducible exact H2_) | (have H2_ := (Option.bind_some _ _).symm.trans H; with_reducible exact H2_) | with_reducible exact H | (rw [hy329]; exact H) | exact H
        have Ny329 := Aside0.mk hy329
        clear hy329
        by_cases c25 : 0 ≤ x9_3
        rotate_left
        ·rw [if_neg c25] at H
         exact absurd H (by simp)
        rw [if_pos c25] at H
        have c25b0 : decide (0 ≤ x9_3) = true := decide_eq_true c25
        clear c25
        by_cases c26 : x9_3 < (l0.length : Int)
        rotate_left
        ·rw [if_neg c26] at H
         exact absurd H (by simp)
        rw [if_pos c26] at H
        have c26b0 : decide (x9_3 < (l0.length : Int)) = true := decide_eq_true c26
        clear c26
        have H' := Aside0.mk H
        clear H
        have go_ := True.intro
        repeat ((first | go_quiet (first | ((with_reducible refine gate_builtin (b := .append) (xs := #[.tmp 69, .tmp 71]) rfl ?_); at_builtin; refine Kd.R_append (Kd.int .i64) (w0 := w) w.heap.size rfl (.tmp 69) (.tmp 71) 23 3 (.int .i64 0) 8 rfl Try.underlying23 info3 rfl (by decide) (by omega) (.slice Ao4 x3_1.length co4) x3_1 x9_3 [.int .i64 x9_3] (fun k_ => some k_ ≠ (.slice Ao6 t320.length co6 : Value).ownBlock) (fun _ => False) rfl rfl ?aP (fun _ hk => hk.elim) ?aF ?aO ?aB ?aS ?aL ?_; (case aP => exact rfl); (case aB => exact (bw HB.out)); (case aF => exact (fun k_ hk => Kd.fresh' (Kd.R_lt (bR HO_37.out)) k_ hk)); (case aO => exact (bR HO_3.out)); (case aS => exact (below_size (bw HB.out))); (case aL => have := LMc24.out; omega); intro v330 w27 ho hb hg hat; rw [← Ny329.out] at ho; have n0_ := Aside0.mk (Kd.R_after (ok := (fun _ => True)) (by (with_reducible repeat (first | apply Kd.R_alloc | apply Kd.R_drewN | apply Kd.R_drew)); exact Kd.R_mono HO_37.out (fun _ hk => ⟨trivial, hk⟩)) hg hat); have n1_ := Aside0.mk (hb); have n2_ := Aside0.mk (ho); clear HO_3; replace HO_37 := n0_; replace HB := n1_; have HO331 := n2_; clear n0_ n1_ n2_; clear ho hb hg hat; have p332 : 0 ≤ (x9_3 : Int) := of_decide_eq_true (by first | (with_reducible assumption) | assumption); have q332 : x9_3 < (l0.length : Int) := of_decide_eq_true (by first | (with_reducible assumption) | assumption); obtain ⟨ad332, e332, hx332_0, hx332_1, hx332_2, hx332_3⟩ := at_T89 HR0.out x9_3 p332 q332; cases e332; replace hx332_0 := (HB.out.cell (World.block_lt_of_cell? w _ hx332_0)).trans hx332_0; replace hx332_1 := (HB.out.cell (World.block_lt_of_cell? w _ hx332_1)).trans hx332_1; replace hx332_2 := (HB.out.cell (World.block_lt_of_cell? w _ hx332_2)).trans hx332_2; replace hx332_3 := (HB.out.cell (World.block_lt_of_cell? w _ hx332_3)).trans hx332_3; replace p332 := eq_true p332; replace q332 := eq_true q332)) | clear go_); go_wp2_with (first | ((with_reducible refine gate_builtin (b := .append) (xs := #[.tmp 69, .tmp 71]) rfl ?_); at_builtin; refine Kd.R_append (Kd.int .i64) (w0 := w) w.heap.size rfl (.tmp 69) (.tmp 71) 23 3 (.int .i64 0) 8 rfl Try.underlying23 info3 rfl (by decide) (by omega) (.slice Ao4 x3_1.length co4) x3_1 x9_3 [.int .i64 x9_3] (fun k_ => some k_ ≠ (.slice Ao6 t320.length co6 : Value).ownBlock) (fun _ => False) rfl rfl ?aP (fun _ hk => hk.elim) ?aF ?aO ?aB ?aS ?aL ?_; (case aP => exact rfl); (case aB => exact (bw HB.out)); (case aF => exact (fun k_ hk => Kd.fresh' (Kd.R_lt (bR HO_37.out)) k_ hk)); (case aO => exact (bR HO_3.out)); (case aS => exact (below_size (bw HB.out))); (case aL => have := LMc24.out; omega); intro v330 w27 ho hb hg hat; rw [← Ny329.out] at ho; have n0_ := Aside0.mk (Kd.R_after (ok := (fun _ => True)) (by (with_reducible repeat (first | apply Kd.R_alloc | apply Kd.R_drewN | apply Kd.R_drew)); exact Kd.R_mono HO_37.out (fun _ hk => ⟨trivial, hk⟩)) hg hat); have n1_ := Aside0.mk (hb); have n2_ := Aside0.mk (ho); clear HO_3; replace HO_37 := n0_; replace HB := n1_; have HO331 := n2_; clear n0_ n1_ n2_; clear ho hb hg hat; have p332 : 0 ≤ (x9_3 : Int) := of_decide_eq_true (by first | (with_reducible assumption) | assumption); have q332 : x9_3 < (l0.length : Int) := of_decide_eq_true (by first | (with_reducible assumption) | assumption); obtain ⟨ad332, e332, hx332_0, hx332_1, hx332_2, hx332_3⟩ := at_T89 HR0.out x9_3 p332 q332; cases e332; replace hx332_0 := (HB.out.cell (World.block_lt_of_cell? w _ hx332_0)).trans hx332_0; replace hx332_1 := (HB.out.cell (World.block_lt_of_cell? w _ hx332_1)).trans hx332_1; replace hx332_2 := (HB.out.cell (World.block_lt_of_cell? w _ hx332_2)).trans hx332_2; replace hx332_3 := (HB.out.cell (World.block_lt_of_cell? w _ hx332_3)).trans hx332_3; replace p332 := eq_true p332; replace q332 := eq_true q332)))
        go_roundg k3
        case measure => have := HK1.out; have := HK2.out; have := HK3.out; omega
        case rel => exact ⟨(y329), (wrap64 (x6_2 + ((rd_T89 l0 x9_3).f0))), (by first | rfl | (simp; done) | (simp [*]; done)), H', ⟨by have := HK1.out; have := HK2.out; have := HK3.out; omega⟩, ⟨by (with_reducible repeat (first | apply Kd.R_alloc | apply Kd.R_drewN | apply Kd.R_drew)); exact Kd.R_mono HO331.out (fun _ hk => trivial)⟩, ⟨bw HB.out⟩⟩
       rw [if_pos c14] at H
       have c14b0 : decide (x39_3 < (t320.length : Int)) = true := decide_eq_true c14
       clear c14
       by_cases c15 : 0 ≤ x39_3
       rotate_left
       ·rw [if_neg c15] at H
        exact absurd H (by simp)
       rw [if_pos c15] at H
       have c15b0 : decide (0 ≤ x39_3) = true := decide_eq_true c15
       clear c15
       by_cases c16 : x39_3 < (t320.length : Int)
       rotate_left
       ·rw [if_neg c16] at H
        exact absurd H (by simp)
       rw [if_pos c16] at H
       have c16b0 : decide (x39_3 < (t320.length : Int)) = true := decide_eq_true c16
       clear c16
       by_cases c17 : 0 ≤ (rd t320 x39_3)
       rotate_left
       ·rw [if_neg c17] at H
        exact absurd H (by simp)
       rw [if_pos c17] at H
       have c17b0 : decide (0 ≤ (rd t320 x39_3)) = true := decide_eq_true c17
       clear c17
       by_cases c18 : (rd t320 x39_3) < (l0.length : Int)
       rotate_left
       ·rw [if_neg c18] at H
        exact absurd H (by simp)
       rw [if_pos c18] at H
       have c18b0 : decide ((rd t320 x39_3) < (l0.length : Int)) = true := decide_eq_true c18
       clear c18
       by_cases c19 : ((rd_T89 l0 (rd t320 x39_3)).f2) ≤ x6_2
       rotate_left
       ·rw [if_neg c19] at H
        have c19b0 : decide (((rd_T89 l0 (rd t320 x39_3)).f2) ≤ x6_2) = false := decide_eq_false c19
        clear c19
        have H' := Aside0.mk H
        clear H
        have p325 : 0 ≤ (x39_3 : Int) := of_decide_eq_true (by first | (with_reducible assumption) | assumption)
        have q325 : x39_3 < (t320.length : Int) := of_decide_eq_true (by first | (with_reducible assumption) | assumption)
        obtain ⟨ad325, e325, hx325_0⟩ := Kd.at_int (Kd.R_reads' HO_37.out).2.2 x39_3 p325 q325
        cases e325
        replace p325 := eq_true p325
        replace q325 := eq_true q325
        have p326 : 0 ≤ ((rd t320 x39_3) : Int) := of_decide_eq_true (by first | (with_reducible assumption) | assumption)
        have q326 : (rd t320 x39_3) < (l0.length : Int) := of_decide_eq_true (by first | (with_reducible assumption) | assumption)
        obtain ⟨ad326, e326, hx326_0, hx326_1, hx326_2, hx326_3⟩ := at_T89 HR0.out (rd t320 x39_3) p326 q326
        cases e326
        replace hx326_0 := (HB.out.cell (World.block_lt_of_cell? w _ hx326_0)).trans hx326_0
        replace hx326_1 := (HB.out.cell (World.block_lt_of_cell? w _ hx326_1)).trans hx326_1
        replace hx326_2 := (HB.out.cell (World.block_lt_of_cell? w _ hx326_2)).trans hx326_2
        replace hx326_3 := (HB.out.cell (World.block_lt_of_cell? w _ hx326_3)).trans hx326_3
        replace p326 := eq_true p326
        replace q326 := eq_true q326
        go_wp2
        repeat (go_quiet (fail); try go_wp2)
        go_roundg k3
        case measure => have := HK1.out; have := HK2.out; have := HK3.out; omega
        case rel => exact ⟨(x9_3), (wrap64 (x39_3 + 1)), (by first | rfl | (simp; done) | (simp [*]; done)), (by first | rfl | (simp; done) | (simp [*]; done)), H', ⟨by have := HK1.out; have := HK2.out; have := HK3.out; omega⟩, ⟨bR HO_3.out⟩, ⟨bR HO_37.out⟩, ⟨bw HB.out⟩⟩
       rw [if_pos c19] at H
       have c19b0 : decide (((rd_T89 l0 (rd t320 x39_3)).f2) ≤ x6_2) = true := decide_eq_true c19
       clear c19
       by_cases c20 : x9_3 < 0
       ·rw [if_pos c20] at H
        have c20b0 : decide (x9_3 < 0) = true := decide_eq_true c20
        clear c20
        have H' := Aside0.mk H
        clear H
        have p325 : 0 ≤ (x39_3 : Int) := of_decide_eq_true (by first | (with_reducible assumption) | assumption)
        have q325 : x39_3 < (t320.length : Int) := of_decide_eq_true (by first | (with_reducible assumption) | assumption)
        obtain ⟨ad325, e325, hx325_0⟩ := Kd.at_int (Kd.R_reads' HO_37.out).2.2 x39_3 p325 q325
        cases e325
        replace p325 := eq_true p325
        replace q325 := eq_true q325
        have p326 : 0 ≤ ((rd t320 x39_3) : Int) := of_decide_eq_true (by first | (with_reducible assumption) | assumption)
        have q326 : (rd t320 x39_3) < (l0.length : Int) := of_decide_eq_true (by first | (with_reducible assumption) | assumption)
        obtain ⟨ad326, e326, hx326_0, hx326_1, hx326_2, hx326_3⟩ := at_T89 HR0.out (rd t320 x39_3) p326 q326
        cases e326
        replace hx326_0 := (HB.out.cell (World.block_lt_of_cell? w _ hx326_0)).trans hx326_0
        replace hx326_1 := (HB.out.cell (World.block_lt_of_cell? w _ hx326_1)).trans hx326_1
        replace hx326_2 := (HB.out.cell (World.block_lt_of_cell? w _ hx326_2)).trans hx326_2
        replace hx326_3 := (HB.out.cell (World.block_lt_of_cell? w _ hx326_3)).trans hx326_3
        replace p326 := eq_true p326
        replace q326 := eq_true q326
        go_wp2
        repeat (go_quiet (fail); try go_wp2)
        go_roundg k3
        case measure => have := HK1.out; have := HK2.out; have := HK3.out; omega
        case rel => exact ⟨(rd t320 x39_3), (wrap64 (x39_3 + 1)), (by first | rfl | (simp; done) | (simp [*]; done)), (by first | rfl | (simp; done) | (simp [*]; done)), H', ⟨by have := HK1.out; have := HK2.out; have := HK3.out; omega⟩, ⟨bR HO_3.out⟩, ⟨bR HO_37.out⟩, ⟨bw HB.out⟩⟩
       rw [if_neg c20] at H
       have c20b0 : decide (x9_3 < 0) = false := decide_eq_false c20
       clear c20
       by_cases c21 : 0 ≤ x9_3
       rotate_left
       ·rw [if_neg c21] at H
        exact absurd H (by simp)
       rw [if_pos c21] at H
       have c21b0 : decide (0 ≤ x9_3) = true := decide_eq_true c21
       clear c21
       by_cases c22 : x9_3 < (l0.length : Int)
       rotate_left
       ·rw [if_neg c22] at H
        exact absurd H (by simp)
       rw [if_pos c22] at H
       have c22b0 : decide (x9_3 < (l0.length : Int)) = true := decide_eq_true c22
       clear c22
       by_cases c23 : ((rd_T89 l0 (rd t320 x39_3)).f3) < ((rd_T89 l0 x9_3).f3)
       rotate_left
       ·rw [if_neg c23] at H
        have c23b0 : decide (((rd_T89 l0 (rd t320 x39_3)).f3) < ((rd_T89 l0 x9_3).f3)) = false := decide_eq_false c23
        clear c23
        have H' := Aside0.mk H
        clear H
        have p325 : 0 ≤ (x39_3 : Int) := of_decide_eq_true (by first | (with_reducible assumption) | assumption)
        have q325 : x39_3 < (t320.length : Int) := of_decide_eq_true (by first | (with_reducible assumption) | assumption)
        obtain ⟨ad325, e325, hx325_0⟩ := Kd.at_int (Kd.R_reads' HO_37.out).2.2 x39_3 p325 q325
        cases e325
        replace p325 := eq_true p325
        replace q325 := eq_true q325
        have p326 : 0 ≤ ((rd t320 x39_3) : Int) := of_decide_eq_true (by first | (with_reducible assumption) | assumption)
        have q326 : (rd t320 x39_3) < (l0.length : Int) := of_decide_eq_true (by first | (with_reducible assumption) | assumption)
        obtain ⟨ad326, e326, hx326_0, hx326_1, hx326_2, hx326_3⟩ := at_T89 HR0.out (rd t320 x39_3) p326 q326
        cases e326
        replace hx326_0 := (HB.out.cell (World.block_lt_of_cell? w _ hx326_0)).trans hx326_0
        replace hx326_1 := (HB.out.cell (World.block_lt_of_cell? w _ hx326_1)).trans hx326_1
        replace hx326_2 := (HB.out.cell (World.block_lt_of_cell? w _ hx326_2)).trans hx326_2
        replace hx326_3 := (HB.out.cell (World.block_lt_of_cell? w _ hx326_3)).trans hx326_3
        replace p326 := eq_true p326
        replace q326 := eq_true q326
        have p327 : 0 ≤ ((rd t320 x39_3) : Int) := of_decide_eq_true (by first | (with_reducible assumption) | assumption)
        have q327 : (rd t320 x39_3) < (l0.length : Int) := of_decide_eq_true (by first | (with_reducible assumption) | assumption)
        obtain ⟨ad327, e327, hx327_0, hx327_1, hx327_2, hx327_3⟩ := at_T89 HR0.out (rd t320 x39_3) p327 q327
        obtain rfl : ad326 = ad327 := (by injection e327)
        replace hx327_0 := (HB.out.cell (World.block_lt_of_cell? w _ hx327_0)).trans hx327_0
        replace hx327_1 := (HB.out.cell (World.block_lt_of_cell? w _ hx327_1)).trans hx327_1
        replace hx327_2 := (HB.out.cell (World.block_lt_of_cell? w _ hx327_2)).trans hx327_2
        replace hx327_3 := (HB.out.cell (World.block_lt_of_cell? w _ hx327_3)).trans hx327_3
        replace p327 := eq_true p327
        replace q327 := eq_true q327
        have p328 : 0 ≤ (x9_3 : Int) := of_decide_eq_true (by first | (with_reducible assumption) | assumption)
        have q328 : x9_3 < (l0.length : Int) := of_decide_eq_true (by first | (with_reducible assumption) | assumption)
        obtain ⟨ad328, e328, hx328_0, hx328_1, hx328_2, hx328_3⟩ := at_T89 HR0.out x9_3 p328 q328
        obtain rfl : ad326 = ad328 := (by injection e328)
        replace hx328_0 := (HB.out.cell (World.block_lt_of_cell? w _ hx328_0)).trans hx328_0
        replace hx328_1 := (HB.out.cell (World.block_lt_of_cell? w _ hx328_1)).trans hx328_1
        replace hx328_2 := (HB.out.cell (World.block_lt_of_cell? w _ hx328_2)).trans hx328_2
        replace hx328_3 := (HB.out.cell (World.block_lt_of_cell? w _ hx328_3)).trans hx328_3
        replace p328 := eq_true p328
        replace q328 := eq_true q328
        go_wp2
        repeat (go_quiet (fail); try go_wp2)
        go_roundg k3
        case measure => have := HK1.out; have := HK2.out; have := HK3.out; omega
        case rel => exact ⟨(x9_3), (wrap64 (x39_3 + 1)), (by first | rfl | (simp; done) | (simp [*]; done)), (by first | rfl | (simp; done) | (simp [*]; done)), H', ⟨by have := HK1.out; have := HK2.out; have := HK3.out; omega⟩, ⟨bR HO_3.out⟩, ⟨bR HO_37.out⟩, ⟨bw HB.out⟩⟩
       rw [if_pos c23] at H
       have c23b0 : decide (((rd_T89 l0 (rd t320 x39_3)).f3) < ((rd_T89 l0 x9_3).f3)) = true := decide_eq_true c23
       clear c23
       have H' := Aside0.mk H
       clear H
       have p325 : 0 ≤ (x39_3 : Int) := of_decide_eq_true (by first | (with_reducible assumption) | assumption)
       have q325 : x39_3 < (t320.length : Int) := of_decide_eq_true (by first | (with_reducible assumption) | assumption)
       obtain ⟨ad325, e325, hx325_0⟩ := Kd.at_int (Kd.R_reads' HO_37.out).2.2 x39_3 p325 q325
       cases e325
       replace p325 := eq_true p325
       replace q325 := eq_true q325
       have p326 : 0 ≤ ((rd t320 x39_3) : Int) := of_decide_eq_true (by first | (with_reducible assumption) | assumption)
       have q326 : (rd t320 x39_3) < (l0.length : Int) := of_decide_eq_true (by first | (with_reducible assumption) | assumption)
       obtain ⟨ad326, e326, hx326_0, hx326_1, hx326_2, hx326_3⟩ := at_T89 HR0.out (rd t320 x39_3) p326 q326
       cases e326
       replace hx326_0 := (HB.out.cell (World.block_lt_of_cell? w _ hx326_0)).trans hx326_0
       replace hx326_1 := (HB.out.cell (World.block_lt_of_cell? w _ hx326_1)).trans hx326_1
       replace hx326_2 := (HB.out.cell (World.block_lt_of_cell? w _ hx326_2)).trans hx326_2
       replace hx326_3 := (HB.out.cell (World.block_lt_of_cell? w _ hx326_3)).trans hx326_3
       replace p326 := eq_true p326
       replace q326 := eq_true q326
       have p327 : 0 ≤ ((rd t320 x39_3) : Int) := of_decide_eq_true (by first | (with_reducible assumption) | assumption)
       have q327 : (rd t320 x39_3) < (l0.length : Int) := of_decide_eq_true (by first | (with_reducible assumption) | assumption)
       obtain ⟨ad327, e327, hx327_0, hx327_1, hx327_2, hx327_3⟩ := at_T89 HR0.out (rd t320 x39_3) p327 q327
       obtain rfl : ad326 = ad327 := (by injection e327)
       replace hx327_0 := (HB.out.cell (World.block_lt_of_cell? w _ hx327_0)).trans hx327_0
       replace hx327_1 := (HB.out.cell (World.block_lt_of_cell? w _ hx327_1)).trans hx327_1
       replace hx327_2 := (HB.out.cell (World.block_lt_of_cell? w _ hx327_2)).trans hx327_2
       replace hx327_3 := (HB.out.cell (World.block_lt_of_cell? w _ hx327_3)).trans hx327_3
       replace p327 := eq_true p327
       replace q327 := eq_true q327
       have p328 : 0 ≤ (x9_3 : Int) := of_decide_eq_true (by first | (with_reducible assumption) | assumption)
       have q328 : x9_3 < (l0.length : Int) := of_decide_eq_true (by first | (with_reducible assumption) | assumption)
       obtain ⟨ad328, e328, hx328_0, hx328_1, hx328_2, hx328_3⟩ := at_T89 HR0.out x9_3 p328 q328
       obtain rfl : ad326 = ad328 := (by injection e328)
       replace hx328_0 := (HB.out.cell (World.block_lt_of_cell? w _ hx328_0)).trans hx328_0
       replace hx328_1 := (HB.out.cell (World.block_lt_of_cell? w _ hx328_1)).trans hx328_1
       replace hx328_2 := (HB.out.cell (World.block_lt_of_cell? w _ hx328_2)).trans hx328_2
       replace hx328_3 := (HB.out.cell (World.block_lt_of_cell? w _ hx328_3)).trans hx328_3
       replace p328 := eq_true p328
       replace q328 := eq_true q328
       go_wp2
       repeat (go_quiet (fail); try go_wp2)
       go_roundg k3
       case measure => have := HK1.out; have := HK2.out; have := HK3.out; omega
       case rel => exact ⟨(rd t320 x39_3), (wrap64 (x39_3 + 1)), (by first | rfl | (simp; done) | (simp [*]; done)), (by first | rfl | (simp; done) | (simp [*]; done)), H', ⟨by have := HK1.out; have := HK2.out; have := HK3.out; omega⟩, ⟨bR HO_3.out⟩, ⟨bR HO_37.out⟩, ⟨bw HB.out⟩⟩

/-! ### impl_criticalPart: function 87 -/
mutual
def impl_criticalPart.l0 : Nat → List (S89) → List Int → List Int → Int → List Int → Int → Int → Option (List Int)
 | 0, _, _, _, _, _, _, _ => none
 | k + 1, x0, x3, x4, x5, x14, x15, x16 => if x16 < x15 then (if 0 ≤ x16 then (if x16 < (x14.length : Int) then (if 0 ≤ (rd x14 x16) then (if (rd x14 x16) < (x4.length : Int) then (if (rd x14 x16) < (x0.length : Int) then (if 0 ≤ x5 then (if x5 < (x3.length : Int) then (if 0 ≤ (rd x3 x5) then (if (rd x3 x5) < (x4.length : Int) then (if (rd x3 x5) < (x0.length : Int) then (if (wrap64 ((rd x4 (rd x14 x16)) - ((rd_T89 x0 (rd x14 x16)).f3))) > (wrap64 ((rd x4 (rd x3 x5)) - ((rd_T89 x0 (rd x3 x5)).f3))) then (impl_criticalPart.l0 k x0 x3 x4 x16 x14 x15 (wrap64 (x16 + 1))) else (impl_criticalPart.l0 k x0 x3 x4 x5 x14 x15 (wrap64 (x16 + 1)))) else (none)) else (none)) else (none)) else (none)) else (none)) else (none)) else (none)) else (none)) else (none)) else (none)) else (impl_criticalPart.l1 k x0 x3 x4 x5 x5)
def impl_criticalPart.l1 : Nat → List (S89) → List Int → List Int → Int → Int → Option (List Int)
 | 0, _, _, _, _, _ => none
 | k + 1, x0, x3, x4, x5, x8 => if x8 > 0 then (if 0 ≤ x8 then (if x8 < (x3.length : Int) then (if 0 ≤ (rd x3 x8) then (if (rd x3 x8) < (x4.length : Int) then (if (rd x3 x8) < (x0.length : Int) then (if 0 ≤ (wrap64 (x8 - 1)) then (if (wrap64 (x8 - 1)) < (x3.length : Int) then (if 0 ≤ (rd x3 (wrap64 (x8 - 1))) then (if (rd x3 (wrap64 (x8 - 1))) < (x4.length : Int) then (if (wrap64 ((rd x4 (rd x3 x8)) - ((rd_T89 x0 (rd x3 x8)).f0))) = (rd x4 (rd x3 (wrap64 (x8 - 1)))) then (impl_criticalPart.l1 k x0 x3 x4 x5 (wrap64 (x8 - 1))) else (if x8 ≤ (wrap64 (x5 + 1)) then (if (wrap64 (x5 + 1)) ≤ (x3.length : Int) then (some ((x3.take ((wrap64 (x5 + 1)) : Int).toNat).drop (x8 : Int).toNat)) else (none)) else (none))) else (none)) else (none)) else (none)) else (none)) else (none)) else (none)) else (none)) else (none)) else (none)) else (if 0 ≤ x8 then (if x8 ≤ (wrap64 (x5 + 1)) then (if (wrap64 (x5 + 1)) ≤ (x3.length : Int) then (some ((x3.take ((wrap64 (x5 + 1)) : Int).toNat).drop (x8 : Int).toNat)) else (none)) else (none)) else (none))
end
def impl_criticalPart.f (k : Nat) (l0 : List (S89)) : Option (List Int) := (impl_greedyOrder.f k l0).bind fun t333 => ((impl_endsOf.f k l0 t333).bind fun t336 => (impl_criticalPart.l0 k l0 t333 t336 0 t333 (t333.length : Int) 0))
theorem impl_criticalPart.mono_l : ∀ k, (∀ y0 y1 y2 y3 y4 y5 y6, LeO (impl_criticalPart.l0 k y0 y1 y2 y3 y4 y5 y6) (impl_criticalPart.l0 (k + 1) y0 y1 y2 y3 y4 y5 y6)) ∧ (∀ y0 y1 y2 y3 y4, LeO (impl_criticalPart.l1 k y0 y1 y2 y3 y4) (impl_criticalPart.l1 (k + 1) y0 y1 y2 y3 y4))
 | 0 => ⟨fun _ _ _ _ _ _ _ r h => by simp [impl_criticalPart.l0] at h, fun _ _ _ _ _ r h => by simp [impl_criticalPart.l1] at h⟩
 | k + 1 => by
  obtain ⟨ih0, ih1⟩ := impl_criticalPart.mono_l k
  refine ⟨?_, ?_⟩
  ·intro y0 y1 y2 y3 y4 y5 y6
   unfold impl_criticalPart.l0
   repeat' first
   | (with_reducible exact ih0 _ _ _ _ _ _ _)
   | (with_reducible exact ih1 _ _ _ _ _)
   | (with_reducible exact impl_endsOf.mono _ _ _)
   | (with_reducible exact impl_greedyOrder.mono _ _)
   | (with_reducible exact LeO.refl _)
   | (with_reducible exact LeO.none _)
   | (with_reducible refine LeO.ite ?_ ?_)
   | (with_reducible refine LeO.bind ?_ (fun _ => ?_))
   | exact ih0 _ _ _ _ _ _ _
   | exact ih1 _ _ _ _ _
   | exact impl_endsOf.mono _ _ _
   | exact impl_greedyOrder.mono _ _
   | exact LeO.none _
   | refine LeO.ite ?_ ?_
   | refine LeO.bind ?_ (fun _ => ?_)
  ·intro y0 y1 y2 y3 y4
   unfold impl_criticalPart.l1
   repeat' first
   | (with_reducible exact ih0 _ _ _ _ _ _ _)
   | (with_reducible exact ih1 _ _ _ _ _)
   | (with_reducible exact impl_endsOf.mono _ _ _)
   | (with_reducible exact impl_greedyOrder.mono _ _)
   | (with_reducible exact LeO.refl _)
   | (with_reducible exact LeO.none _)
   | (with_reducible refine LeO.ite ?_ ?_)
   | (with_reducible refine LeO.bind ?_ (fun _ => ?_))
   | exact ih0 _ _ _ _ _ _ _
   | exact ih1 _ _ _ _ _
   | exact impl_endsOf.mono _ _ _
   | exact impl_greedyOrder.mono _ _
   | exact LeO.none _
   | refine LeO.ite ?_ ?_
   | refine LeO.bind ?_ (fun _ => ?_)
theorem impl_criticalPart.mono : ∀ a0 k, LeO (impl_criticalPart.f k a0) (impl_criticalPart.f (k + 1) a0) := by
 intro a0 k
 obtain ⟨ih0, ih1⟩ := impl_criticalPart.mono_l k
 unfold impl_criticalPart.f
 repeat' first
   | (with_reducible exact ih0 _ _ _ _ _ _ _)
   | (with_reducible exact ih1 _ _ _ _ _)
   | (with_reducible exact impl_endsOf.mono _ _ _)
   | (with_reducible exact impl_greedyOrder.mono _ _)
   | (with_reducible exact LeO.refl _)
   | (with_reducible exact LeO.none _)
   | (with_reducible refine LeO.ite ?_ ?_)
   | (with_reducible refine LeO.bind ?_ (fun _ => ?_))
   | exact ih0 _ _ _ _ _ _ _
   | exact ih1 _ _ _ _ _
   | exact impl_endsOf.mono _ _ _
   | exact impl_greedyOrder.mono _ _
   | exact LeO.none _
   | refine LeO.ite ?_ ?_
   | refine LeO.bind ?_ (fun _ => ?_)
set_option maxHeartbeats 8000000 in
set_option maxRecDepth 100000 in
theorem impl_criticalPart.calls (k : Nat) (A0 : Option Addr) (c0 : Nat) (l0 : List (S89)) (r : List Int) (w : World) (hr0 : Kd.C k89 w A0 l0.length l0) (hc0 : l0.length ≤ c0) (h : impl_criticalPart.f k l0 = some r) :
  Calls Try.prog 87 #[.slice A0 l0.length c0] w fun e w' => ∃ v0_ : Value, e = .returned (v0_) ∧ Kd.Q (Kd.int .i64) 3 w' w.heap.size (fun _ => True) v0_ r ∧ Below w.heap.size w w' := by
 have HR0 := Aside0.mk hr0
 have HC0 := Aside0.mk hc0
 clear hr0 hc0
 have HB := Aside0.mk (Below.refl w.heap.size w)
 have H : ((impl_greedyOrder.f k l0).bind fun t333 => ((impl_endsOf.f k l0 t333).bind fun t336 => (impl_criticalPart.l0 k l0 t333 t336 0 t333 (t333.length : Int) 0))) = some r := h
 clear h
 replace H := Option.bind_eq_some_iff.mp H
 obtain ⟨t333, A20, H⟩ := H
 replace H : ((impl_endsOf.f k l0 t333).bind fun t336 => (impl_criticalPart.l0 k l0 t333 t336 0 t333 (t333.length : Int) 0)) = some r := H
 have A2 := Aside0.mk A20
 clear A20
 replace H := Option.bind_eq_some_iff.mp H
 obtain ⟨t336, A30, H⟩ := H
 replace H : (impl_criticalPart.l0 k l0 t333 t336 0 t333 (t333.length : Int) 0) = some r := H
 have A3 := Aside0.mk A30
 clear A30
 have H' := Aside0.mk H
 clear H
 go_enter Try.func87, Try.ntmps87
 have go_ := True.intro
 repeat ((first | go_quiet (first | (go_at_call 145; (with_reducible refine (impl_greedyOrder.calls k _ _ l0 t333 _ ?side1 ?side2 A2.out).mono ?_); (case side1 => repeat (first | exact HR0.out | (with_reducible refine Kd.C_alloc ?_ _) | (with_reducible refine Kd.C_drewN ?_ _) | (with_reducible refine Kd.C_drew ?_))); (case side2 => exact HC0.out); rintro e w4 ⟨v334, rfl, ho0, hb⟩; have n0_ := Aside0.mk (Kd.R_lower ho0 (below_size (bw HB.out))); have n1_ := Aside0.mk (below_step (bw HB.out) hb); have HO335 := n0_; replace HB := n1_; clear n0_ n1_; (try clear hb); (try clear hb2); (try clear hk); (try clear hi); (try clear ho0); obtain ⟨Ao5, co5, eo5⟩ := Kd.R_slice HO335.out; subst eo5) | (go_at_call 132; (with_reducible refine (impl_endsOf.calls k _ _ l0 _ _ t333 t336 _ ?side1 ?side2 ?side3 ?side4 A3.out).mono ?_); (case side1 => first | exact bC HR0.out HB.out | exact Kd.C_below HR0.out HB.out); (case side2 => exact HC0.out); (case side3 => repeat (first | exact (Kd.R_reads' HO335.out).2.2 | (with_reducible refine Kd.C_alloc ?_ _) | (with_reducible refine Kd.C_drewN ?_ _) | (with_reducible refine Kd.C_drew ?_))); (case side4 => exact (Kd.R_reads' HO335.out).2.1); rintro e w6 ⟨v337, rfl, ho0, hb⟩; have n0_ := Aside0.mk (Kd.R_elder' (bR HO335.out) (Kd.R_base ho0) hb); have n1_ := Aside0.mk (Kd.R_lower (Kd.R_new' ho0 (Kd.R_lt (bR HO335.out))) (below_size (bw HB.out))); have n2_ := Aside0.mk (below_step (bw HB.out) hb); replace HO335 := n0_; have HO338 := n1_; replace HB := n2_; clear n0_ n1_ n2_; (try clear hb); (try clear hb2); (try clear hk); (try clear hi); (try clear ho0))) | clear go_); go_wp2_with (first | (go_at_call 145; (with_reducible refine (impl_greedyOrder.calls k _ _ l0 t333 _ ?side1 ?side2 A2.out).mono ?_); (case side1 => repeat (first | exact HR0.out | (with_reducible refine Kd.C_alloc ?_ _) | (with_reducible refine Kd.C_drewN ?_ _) | (with_reducible refine Kd.C_drew ?_))); (case side2 => exact HC0.out); rintro e w4 ⟨v334, rfl, ho0, hb⟩; have n0_ := Aside0.mk (Kd.R_lower ho0 (below_size (bw HB.out))); have n1_ := Aside0.mk (below_step (bw HB.out) hb); have HO335 := n0_; replace HB := n1_; clear n0_ n1_; (try clear hb); (try clear hb2); (try clear hk); (try clear hi); (try clear ho0); obtain ⟨Ao5, co5, eo5⟩ := Kd.R_slice HO335.out; subst eo5) | (go_at_call 132; (with_reducible refine (impl_endsOf.calls k _ _ l0 _ _ t333 t336 _ ?side1 ?side2 ?side3 ?side4 A3.out).mono ?_); (case side1 => first | exact bC HR0.out HB.out | exact Kd.C_below HR0.out HB.out); (case side2 => exact HC0.out); (case side3 => repeat (first | exact (Kd.R_reads' HO335.out).2.2 | (with_reducible refine Kd.C_alloc ?_ _) | (with_reducible refine Kd.C_drewN ?_ _) | (with_reducible refine Kd.C_drew ?_))); (case side4 => exact (Kd.R_reads' HO335.out).2.1); rintro e w6 ⟨v337, rfl, ho0, hb⟩; have n0_ := Aside0.mk (Kd.R_elder' (bR HO335.out) (Kd.R_base ho0) hb); have n1_ := Aside0.mk (Kd.R_lower (Kd.R_new' ho0 (Kd.R_lt (bR HO335.out))) (below_size (bw HB.out))); have n2_ := Aside0.mk (below_step (bw HB.out) hb); replace HO335 := n0_; have HO338 := n1_; replace HB := n2_; clear n0_ n1_ n2_; (try clear hb); (try clear hb2); (try clear hk); (try clear hi); (try clear ho0))))
 go_loopg [5, 16] k (fun kq v5 v16 w' => ∃ (x5_1 : Int) (x16_1 : Int), v5 = .int .i64 x5_1 ∧ v16 = .int .i64 x16_1 ∧ Aside0 (impl_criticalPart.l0 kq l0 t333 t336 x5_1 t333 (t333.length : Int) x16_1 = some r) ∧ Aside0 (kq ≤ k) ∧ Aside0 (Kd.R (Kd.int .i64) 3 w' w.heap.size (fun k_ => some k_ ≠ (v337 : Value).ownBlock) (.slice Ao5 t333.length co5) t333) ∧ Aside0 (Kd.R (Kd.int .i64) 3 w' w.heap.size (fun k_ => some k_ ≠ ((.slice Ao5 t333.length co5) : Value).ownBlock ∧ some k_ ≠ ((.slice Ao5 t333.length co5) : Value).ownBlock) v337 t336) ∧ Aside0 (Kd.R (Kd.int .i64) 3 w' w.heap.size (fun k_ => some k_ ≠ (v337 : Value).ownBlock) (.slice Ao5 t333.length co5) t333) ∧ Aside0 (Below w.heap.size w w'))
 case atStart => exact ⟨(0), (0), (by first | rfl | (simp; done) | (simp [*]; done)), (by first | rfl | (simp; done) | (simp [*]; done)), H', ⟨Nat.le_refl _⟩, ⟨by (with_reducible repeat (first | apply Kd.R_alloc | apply Kd.R_drewN | apply Kd.R_drew)); exact Kd.R_mono HO335.out (fun _ hk => hk.2)⟩, ⟨by (with_reducible repeat (first | apply Kd.R_alloc | apply Kd.R_drewN | apply Kd.R_drew)); exact Kd.R_mono HO338.out (fun _ hk => ⟨hk.2, hk.2⟩)⟩, ⟨by (with_reducible repeat (first | apply Kd.R_alloc | apply Kd.R_drewN | apply Kd.R_drew)); exact Kd.R_mono HO335.out (fun _ hk => hk.2)⟩, ⟨bw HB.out⟩⟩
 case round =>
  clear H'
  try clear p2
  obtain ⟨x5_1, x16_1, rfl, rfl, HA, HK1, HO_3, HO_4, HO_14, HB⟩ := hrel
  cases gk with
  | zero => exact absurd HA.out (by simp [impl_criticalPart.l0])
  | succ k1 =>
   have H := HA.out
   clear HA
   simp only [impl_criticalPart.l0] at H
   by_cases c7 : x16_1 < (t333.length : Int)
   ·rw [if_pos c7] at H
    have c7b0 : decide (x16_1 < (t333.length : Int)) = true := decide_eq_true c7
    clear c7
    by_cases c8 : 0 ≤ x16_1
    rotate_left
    ·rw [if_neg c8] at H
     exact absurd H (by simp)
    rw [if_pos c8] at H
    have c8b0 : decide (0 ≤ x16_1) = true := decide_eq_true c8
    clear c8
    by_cases c9 : x16_1 < (t333.length : Int)
    rotate_left
    ·rw [if_neg c9] at H
     exact absurd H (by simp)
    rw [if_pos c9] at H
    have c9b0 : decide (x16_1 < (t333.length : Int)) = true := decide_eq_true c9
    clear c9
    by_cases c10 : 0 ≤ (rd t333 x16_1)
    rotate_left
    ·rw [if_neg c10] at H
     exact absurd H (by simp)
    rw [if_pos c10] at H
    have c10b0 : decide (0 ≤ (rd t333 x16_1)) = true := decide_eq_true c10
    clear c10
    by_cases c11 : (rd t333 x16_1) < (t336.length : Int)
    rotate_left
    ·rw [if_neg c11] at H
     exact absurd H (by simp)
    rw [if_pos c11] at H
    have c11b0 : decide ((rd t333 x16_1) < (t336.length : Int)) = true := decide_eq_true c11
    clear c11
    by_cases c12 : (rd t333 x16_1) < (l0.length : Int)
    rotate_left
    ·rw [if_neg c12] at H
     exact absurd H (by simp)
    rw [if_pos c12] at H
    have c12b0 : decide ((rd t333 x16_1) < (l0.length : Int)) = true := decide_eq_true c12
    clear c12
    by_cases c13 : 0 ≤ x5_1
    rotate_left
    ·rw [if_neg c13] at H
     exact absurd H (by simp)
    rw [if_pos c13] at H
    have c13b0 : decide (0 ≤ x5_1) = true := decide_eq_true c13
    clear c13
    by_cases c14 : x5_1 < (t333.length : Int)
    rotate_left
    ·rw [if_neg c14] at H
     exact absurd H (by simp)
    rw [if_pos c14] at H
    have c14b0 : decide (x5_1 < (t333.length : Int)) = true := decide_eq_true c14
    clear c14
    by_cases c15 : 0 ≤ (rd t333 x5_1)
    rotate_left
    ·rw [if_neg c15] at H
     exact absurd H (by simp)
    rw [if_pos c15] at H
    have c15b0 : decide (0 ≤ (rd t333 x5_1)) = true := decide_eq_true c15
    clear c15
    by_cases c16 : (rd t333 x5_1) < (t336.length : Int)
    rotate_left
    ·rw [if_neg c16] at H
     exact absurd H (by simp)
    rw [if_pos c16] at H
    have c16b0 : decide ((rd t333 x5_1) < (t336.length : Int)) = true := decide_eq_true c16
    clear c16
    by_cases c17 : (rd t333 x5_1) < (l0.length : Int)
    rotate_left
    ·rw [if_neg c17] at H
     exact absurd H (by simp)
    rw [if_pos c17] at H
    have c17b0 : decide ((rd t333 x5_1) < (l0.length : Int)) = true := decide_eq_true c17
    clear c17
    by_cases c18 : (wrap64 ((rd t336 (rd t333 x16_1)) - ((rd_T89 l0 (rd t333 x16_1)).f3))) > (wrap64 ((rd t336 (rd t333 x5_1)) - ((rd_T89 l0 (rd t333 x5_1)).f3)))
    ·rw [if_pos c18] at H
     have c18b0 : decide ((wrap64 ((rd t336 (rd t333 x5_1)) - ((rd_T89 l0 (rd t333 x5_1)).f3))) < (wrap64 ((rd t336 (rd t333 x16_1)) - ((rd_T89 l0 (rd t333 x16_1)).f3)))) = true := decide_eq_true c18
     clear c18
     have H' := Aside0.mk H
     clear H
     have p339 : 0 ≤ (x16_1 : Int) := of_decide_eq_true (by first | (with_reducible assumption) | assumption)
     have q339 : x16_1 < (t333.length : Int) := of_decide_eq_true (by first | (with_reducible assumption) | assumption)
     obtain ⟨ad339, e339, hx339_0⟩ := Kd.at_int (Kd.R_reads' HO_14.out).2.2 x16_1 p339 q339
     cases e339
     replace p339 := eq_true p339
     replace q339 := eq_true q339
     obtain ⟨Ao19, co19, eo19⟩ := Kd.R_slice HO_4.out
     subst eo19
     have p340 : 0 ≤ ((rd t333 x16_1) : Int) := of_decide_eq_true (by first | (with_reducible assumption) | assumption)
     have q340 : (rd t333 x16_1) < (t336.length : Int) := of_decide_eq_true (by first | (with_reducible assumption) | assumption)
     obtain ⟨ad340, e340, hx340_0⟩ := Kd.at_int (Kd.R_reads' HO_4.out).2.2 (rd t333 x16_1) p340 q340
     cases e340
     replace p340 := eq_true p340
     replace q340 := eq_true q340
     have p341 : 0 ≤ ((rd t333 x16_1) : Int) := of_decide_eq_true (by first | (with_reducible assumption) | assumption)
     have q341 : (rd t333 x16_1) < (l0.length : Int) := of_decide_eq_true (by first | (with_reducible assumption) | assumption)
     obtain ⟨ad341, e341, hx341_0, hx341_1, hx341_2, hx341_3⟩ := at_T89 HR0.out (rd t333 x16_1) p341 q341
     cases e341
     replace hx341_0 := (HB.out.cell (World.block_lt_of_cell? w _ hx341_0)).trans hx341_0
     replace hx341_1 := (HB.out.cell (World.block_lt_of_cell? w _ hx341_1)).trans hx341_1
     replace hx341_2 := (HB.out.cell (World.block_lt_of_cell? w _ hx341_2)).trans hx341_2
     replace hx341_3 := (HB.out.cell (World.block_lt_of_cell? w _ hx341_3)).trans hx341_3
     replace p341 := eq_true p341
     replace q341 := eq_true q341
     have p342 : 0 ≤ (x5_1 : Int) := of_decide_eq_true (by first | (with_reducible assumption) | assumption)
     have q342 : x5_1 < (t333.length : Int) := of_decide_eq_true (by first | (with_reducible assumption) | assumption)
     obtain ⟨ad342, e342, hx342_0⟩ := Kd.at_int (Kd.R_reads' HO_3.out).2.2 x5_1 p342 q342
     obtain rfl : ad339 = ad342 := (by injection e342)
     replace p342 := eq_true p342
     replace q342 := eq_true q342
     have p343 : 0 ≤ ((rd t333 x5_1) : Int) := of_decide_eq_true (by first | (with_reducible assumption) | assumption)
     have q343 : (rd t333 x5_1) < (t336.length : Int) := of_decide_eq_true (by first | (with_reducible assumption) | assumption)
     obtain ⟨ad343, e343, hx343_0⟩ := Kd.at_int (Kd.R_reads' HO_4.out).2.2 (rd t333 x5_1) p343 q343
     obtain rfl : ad340 = ad343 := (by injection e343)
     replace p343 := eq_true p343
     replace q343 := eq_true q343
     have p344 : 0 ≤ (x5_1 : Int) := of_decide_eq_true (by first | (with_reducible assumption) | assumption)
     have q344 : x5_1 < (t333.length : Int) := of_decide_eq_true (by first | (with_reducible assumption) | assumption)
     obtain ⟨ad344, e344, hx344_0⟩ := Kd.at_int (Kd.R_reads' HO_3.out).2.2 x5_1 p344 q344
     obtain rfl : ad339 = ad344 := (by injection e344)
     replace p344 := eq_true p344
     replace q344 := eq_true q344
     have p345 : 0 ≤ ((rd t333 x5_1) : Int) := of_decide_eq_true (by first | (with_reducible assumption) | assumption)
     have q345 : (rd t333 x5_1) < (l0.length : Int) := of_decide_eq_true (by first | (with_reducible assumption) | assumption)
     obtain ⟨ad345, e345, hx345_0, hx345_1, hx345_2, hx345_3⟩ := at_T89 HR0.out (rd t333 x5_1) p345 q345
     obtain rfl : ad341 = ad345 := (by injection e345)
     replace hx345_0 := (HB.out.cell (World.block_lt_of_cell? w _ hx345_0)).trans hx345_0
     replace hx345_1 := (HB.out.cell (World.block_lt_of_cell? w _ hx345_1)).trans hx345_1
     replace hx345_2 := (HB.out.cell (World.block_lt_of_cell? w _ hx345_2)).trans hx345_2
     replace hx345_3 := (HB.out.cell (World.block_lt_of_cell? w _ hx345_3)).trans hx345_3
     replace p345 := eq_true p345
     replace q345 := eq_true q345
     go_wp2
     repeat (go_quiet (fail); try go_wp2)
     go_roundg k1
     case measure => have := HK1.out; omega
     case rel => exact ⟨(x16_1), (wrap64 (x16_1 + 1)), (by first | rfl | (simp; done) | (simp [*]; done)), (by first | rfl | (simp; done) | (simp [*]; done)), H', ⟨by have := HK1.out; omega⟩, ⟨bR HO_3.out⟩, ⟨bR HO_4.out⟩, ⟨bR HO_14.out⟩, ⟨bw HB.out⟩⟩
    rw [if_neg c18] at H
    have c18b0 : decide ((wrap64 ((rd t336 (rd t333 x5_1)) - ((rd_T89 l0 (rd t333 x5_1)).f3))) < (wrap64 ((rd t336 (rd t333 x16_1)) - ((rd_T89 l0 (rd t333 x16_1)).f3)))) = false := decide_eq_false c18
    clear c18
    have H' := Aside0.mk H
    clear H
    have p339 : 0 ≤ (x16_1 : Int) := of_decide_eq_true (by first | (with_reducible assumption) | assumption)
    have q339 : x16_1 < (t333.length : Int) := of_decide_eq_true (by first | (with_reducible assumption) | assumption)
    obtain ⟨ad339, e339, hx339_0⟩ := Kd.at_int (Kd.R_reads' HO_14.out).2.2 x16_1 p339 q339
    cases e339
    replace p339 := eq_true p339
    replace q339 := eq_true q339
    obtain ⟨Ao20, co20, eo20⟩ := Kd.R_slice HO_4.out
    subst eo20
    have p340 : 0 ≤ ((rd t333 x16_1) : Int) := of_decide_eq_true (by first | (with_reducible assumption) | assumption)
    have q340 : (rd t333 x16_1) < (t336.length : Int) := of_decide_eq_true (by first | (with_reducible assumption) | assumption)
    obtain ⟨ad340, e340, hx340_0⟩ := Kd.at_int (Kd.R_reads' HO_4.out).2.2 (rd t333 x16_1) p340 q340
    cases e340
    replace p340 := eq_true p340
    replace q340 := eq_true q340
    have p341 : 0 ≤ ((rd t333 x16_1) : Int) := of_decide_eq_true (by first | (with_reducible assumption) | assumption)
    have q341 : (rd t333 x16_1) < (l0.length : Int) := of_decide_eq_true (by first | (with_reducible assumption) | assumption)
    obtain ⟨ad341, e341, hx341_0, hx341_1, hx341_2, hx341_3⟩ := at_T89 HR0.out (rd t333 x16_1) p341 q341
    cases e341
    replace hx341_0 := (HB.out.cell (World.block_lt_of_cell? w _ hx341_0)).trans hx341_0
    replace hx341_1 := (HB.out.cell (World.block_lt_of_cell? w _ hx341_1)).trans hx341_1
    replace hx341_2 := (HB.out.cell (World.block_lt_of_cell? w _ hx341_2)).trans hx341_2
    replace hx341_3 := (HB.out.cell (World.block_lt_of_cell? w _ hx341_3)).trans hx341_3
    replace p341 := eq_true p341
    replace q341 := eq_true q341
    have p342 : 0 ≤ (x5_1 : Int) := of_decide_eq_true (by first | (with_reducible assumption) | assumption)
    have q342 : x5_1 < (t333.length : Int) := of_decide_eq_true (by first | (with_reducible assumption) | assumption)
    obtain ⟨ad342, e342, hx342_0⟩ := Kd.at_int (Kd.R_reads' HO_3.out).2.2 x5_1 p342 q342
    obtain rfl : ad339 = ad342 := (by injection e342)
    replace p342 := eq_true p342
    replace q342 := eq_true q342
    have p343 : 0 ≤ ((rd t333 x5_1) : Int) := of_decide_eq_true (by first | (with_reducible assumption) | assumption)
    have q343 : (rd t333 x5_1) < (t336.length : Int) := of_decide_eq_true (by first | (with_reducible assumption) | assumption)
    obtain ⟨ad343, e343, hx343_0⟩ := Kd.at_int (Kd.R_reads' HO_4.out).2.2 (rd t333 x5_1) p343 q343
    obtain rfl : ad340 = ad343 := (by injection e343)
    replace p343 := eq_true p343
    replace q343 := eq_true q343
    have p344 : 0 ≤ (x5_1 : Int) := of_decide_eq_true (by first | (with_reducible assumption) | assumption)
    have q344 : x5_1 < (t333.length : Int) := of_decide_eq_true (by first | (with_reducible assumption) | assumption)
    obtain ⟨ad344, e344, hx344_0⟩ := Kd.at_int (Kd.R_reads' HO_3.out).2.2 x5_1 p344 q344
    obtain rfl : ad339 = ad344 := (by injection e344)
    replace p344 := eq_true p344
    replace q344 := eq_true q344
    have p345 : 0 ≤ ((rd t333 x5_1) : Int) := of_decide_eq_true (by first | (with_reducible assumption) | assumption)
    have q345 : (rd t333 x5_1) < (l0.length : Int) := of_decide_eq_true (by first | (with_reducible assumption) | assumption)
    obtain ⟨ad345, e345, hx345_0, hx345_1, hx345_2, hx345_3⟩ := at_T89 HR0.out (rd t333 x5_1) p345 q345
    obtain rfl : ad341 = ad345 := (by injection e345)
    replace hx345_0 := (HB.out.cell (World.block_lt_of_cell? w _ hx345_0)).trans hx345_0
    replace hx345_1 := (HB.out.cell (World.block_lt_of_cell? w _ hx345_1)).trans hx345_1
    replace hx345_2 := (HB.out.cell (World.block_lt_of_cell? w _ hx345_2)).trans hx345_2
    replace hx345_3 := (HB.out.cell (World.block_lt_of_cell? w _ hx345_3)).trans hx345_3
    replace p345 := eq_true p345
    replace q345 := eq_true q345
    go_wp2
    repeat (go_quiet (fail); try go_wp2)
    go_roundg k1
    case measure => have := HK1.out; omega
    case rel => exact ⟨(x5_1), (wrap64 (x16_1 + 1)), (by first | rfl | (simp; done) | (simp [*]; done)), (by first | rfl | (simp; done) | (simp [*]; done)), H', ⟨by have := HK1.out; omega⟩, ⟨bR HO_3.out⟩, ⟨bR HO_4.out⟩, ⟨bR HO_14.out⟩, ⟨bw HB.out⟩⟩
   rw [if_neg c7] at H
   have c7b0 : decide (x16_1 < (t333.length : Int)) = false := decide_eq_false c7
   clear c7
   have H' := Aside0.mk H
   clear H
   go_wp2
   repeat (go_quiet (fail); try go_wp2)
   go_loopg [8] k1 (fun kq v8 w' => ∃ (x8_2 : Int), v8 = .int .i64 x8_2 ∧ Aside0 (impl_criticalPart.l1 kq l0 t333 t336 x5_1 x8_2 = some r) ∧ Aside0 (kq ≤ k1) ∧ Aside0 (Kd.R (Kd.int .i64) 3 w' w.heap.size (fun k_ => some k_ ≠ (v337 : Value).ownBlock) (.slice Ao5 t333.length co5) t333) ∧ Aside0 (Kd.R (Kd.int .i64) 3 w' w.heap.size (fun k_ => some k_ ≠ ((.slice Ao5 t333.length co5) : Value).ownBlock) v337 t336) ∧ Aside0 (Below w.heap.size w w'))
   case atStart => exact ⟨(x5_1), (by first | rfl | (simp; done) | (simp [*]; done)), H', ⟨Nat.le_refl _⟩, ⟨bR HO_3.out⟩, ⟨by (with_reducible repeat (first | apply Kd.R_alloc | apply Kd.R_drewN | apply Kd.R_drew)); exact Kd.R_mono HO_4.out (fun _ hk => hk.1)⟩, ⟨bw HB.out⟩⟩
   case round =>
    clear H'
    try clear c1
    try clear p2
    try clear p3
    try clear q3
    try clear hx3
    try clear p6
    try clear c7
    try clear c7b0
    try clear c8
    try clear c8b0
    try clear c9
    try clear c9b0
    try clear c10
    try clear c10b0
    try clear c11
    try clear c11b0
    try clear c12
    try clear c12b0
    try clear c13
    try clear c13b0
    try clear c14
    try clear c14b0
    try clear c15
    try clear c15b0
    try clear c16
    try clear c16b0
    try clear c17
    try clear c17b0
    try clear c18
    try clear c18b0
    try clear hx339_0
    try clear hx340_0
    try clear hx341_0
    try clear hx341_1
    try clear hx341_2
    try clear hx341_3
    try clear hx342_0
    try clear hx343_0
    try clear hx344_0
    try clear hx345_0
    try clear hx345_1
    try clear hx345_2
    try clear hx345_3
    try clear p2
    try clear p339
    try clear p340
    try clear p341
    try clear p342
    try clear p343
    try clear p344
    try clear p345
    try clear q339
    try clear q340
    try clear q341
    try clear q342
    try clear q343
    try clear q344
    try clear q345
    obtain ⟨x8_2, rfl, HA, HK2, HO_3, HO_4, HB⟩ := hrel
    cases gk with
    | zero => exact absurd HA.out (by simp [impl_criticalPart.l1])
    | succ k2 =>
     have H := HA.out
     clear HA
     simp only [impl_criticalPart.l1] at H
     by_cases c21 : x8_2 > 0
     rotate_left
     ·rw [if_neg c21] at H
      have c21b0 : decide (0 < x8_2) = false := decide_eq_false c21
      clear c21
      by_cases c39 : 0 ≤ x8_2
      rotate_left
      ·rw [if_neg c39] at H
       exact absurd H (by simp)
      rw [if_pos c39] at H
      have c39b0 := eq_true c39
      have c39b1 : decide (0 ≤ x8_2) = true := decide_eq_true c39
      clear c39
      by_cases c40 : x8_2 ≤ (wrap64 (x5_1 + 1))
      rotate_left
      ·rw [if_neg c40] at H
       exact absurd H (by simp)
      rw [if_pos c40] at H
      have c40b0 := eq_true c40
      have c40b1 : decide (x8_2 ≤ (wrap64 (x5_1 + 1))) = true := decide_eq_true c40
      by_cases c41 : (wrap64 (x5_1 + 1)) ≤ (t333.length : Int)
      rotate_left
      ·rw [if_neg c41] at H
       exact absurd H (by simp)
      rw [if_pos c41] at H
      have c41b0 := eq_true c41
      have c41b1 : decide ((wrap64 (x5_1 + 1)) ≤ (t333.length : Int)) = true := decide_eq_true c41
      obtain ⟨y356, hy356⟩ : ∃ y_ : List Int, y_ = ((t333.take ((wrap64 (x5_1 + 1)) : Int).toNat).drop (x8_2 : Int).toNat) := ⟨_, rfl⟩
      replace H : (some y356) = some r := by first | (rw [hy356]; with_reducible exact H) | (have H2_ := (Option.bind_some _ _).symm.trans H; rw [hy356]; with_reducible exact H2_) | (have H2_ := (Option.bind_some _ _).symm.trans H; with_reducible exact H2_) | with_reducible exact H | (rw [hy356]; exact H) | exact H
      have Ny356 := Aside0.mk hy356
      clear hy356
      obtain rfl := Option.some.inj H
      have q42 : ((wrap64 (x5_1 + 1)) : Int) ≤ ((t333.length : Int) : Int) := of_decide_eq_true (by first | (with_reducible assumption) | assumption)
      obtain ⟨i042, hi042, _, hsz42, _⟩ := info_parts info3
      have hroom42 : t333.length ≤ co5 := (Kd.R_reads' HO_3.out).2.1
      have hC42 : Kd.C (Kd.int .i64) _ Ao5 t333.length t333 := (Kd.R_reads' HO_3.out).2.2
      have ql42 : (x8_2 : Int) ≤ ((wrap64 (x5_1 + 1)) : Int) := of_decide_eq_true (by first | (with_reducible assumption) | assumption)
      have q042 : (0 : Int) ≤ (x8_2 : Int) := of_decide_eq_true (by first | (with_reducible assumption) | assumption)
      have hcut42 := cut_mid (P := Try.prog) 23 3 .i64 .i64 Try.underlying23 hi042 1 hsz42 Ao5 t333.length co5 x8_2 (wrap64 (x5_1 + 1)) q042 ql42 q42 hroom42
      have hr42 := Kd.C_mid (lo := (x8_2 : Int).toNat) (hi := ((wrap64 (x5_1 + 1)) : Int).toNat) (c := co5) hC42 (by omega) (by omega) hroom42
      obtain ⟨A42, hA42⟩ : ∃ A1, A1 = (if co5 = (x8_2 : Int).toNat then Ao5 else (Ao5 : Option Addr).map (·.add ((x8_2 : Int).toNat * 1))) := ⟨_, rfl⟩
      obtain ⟨c42, hc42⟩ : ∃ c1, c1 = co5 - (x8_2 : Int).toNat := ⟨_, rfl⟩
      have hy42 : y356.length = ((wrap64 (x5_1 + 1)) : Int).toNat - (x8_2 : Int).toNat := (by rw [Ny356.out, List.length_drop, List.length_take] <;> omega)
      rw [show ((t333).take ((wrap64 (x5_1 + 1)) : Int).toNat).drop (x8_2 : Int).toNat = y356 from Ny356.out.symm] at hr42
      replace hr42 : Kd.C (Kd.int .i64) _ A42 y356.length y356 := (by rw [hA42]; exact hr42)
      rw [← hy42, ← hA42, ← hc42] at hcut42
      have HR359 := Aside0.mk hr42
      have HC359 := Aside0.mk (show y356.length ≤ c42 from by rw [hy42, hc42]; exact Nat.sub_le_sub_right (Nat.le_trans (by omega) hroom42) _)
      have HM42 := Aside0.mk (show Kd.Q (Kd.int .i64) 3 _ w.heap.size _ (.slice A42 y356.length c42) y356 from by have hq_ := Kd.Q_drop (k := (x8_2 : Int).toNat) (Kd.Q_of_R (Kd.R_take (m := ((wrap64 (x5_1 + 1)) : Int).toNat) HO_3.out (by omega))) (by rw [List.length_take]; omega); rw [hy42, hA42, hc42, Ny356.out]; exact hq_)
      clear hr42 hC42 hroom42 hi042 hsz42 hc42
      have KY42 := Aside0.mk hy42
      have KA42 := Aside0.mk hA42
      clear hy42 hA42
      have KL42 := Aside0.mk (show ((wrap64 (x5_1 + 1)) : Int).toNat ≤ t333.length from by omega)
      have KM42 := Aside0.mk (show (x8_2 : Int).toNat ≤ ((wrap64 (x5_1 + 1)) : Int).toNat from by omega)
      replace q42 := eq_true q42
      go_wp2
      repeat (go_quiet (fail); try go_wp2)
      go_ret
      exact ⟨_, by first | rfl | (simp [errW_none, errW_some] <;> rfl) | (simp [*, errW_none, errW_some] <;> rfl), by (with_reducible repeat (first | apply Kd.Q_alloc | apply Kd.Q_drewN | apply Kd.Q_drew)); exact Kd.Q_mono HM42.out (fun _ hk => trivial), bw HB.out⟩
     rw [if_pos c21] at H
     have c21b0 : decide (0 < x8_2) = true := decide_eq_true c21
     clear c21
     by_cases c22 : 0 ≤ x8_2
     rotate_left
     ·rw [if_neg c22] at H
      exact absurd H (by simp)
     rw [if_pos c22] at H
     have c22b0 : decide (0 ≤ x8_2) = true := decide_eq_true c22
     clear c22
     by_cases c23 : x8_2 < (t333.length : Int)
     rotate_left
     ·rw [if_neg c23] at H
      exact absurd H (by simp)
     rw [if_pos c23] at H
     have c23b0 : decide (x8_2 < (t333.length : Int)) = true := decide_eq_true c23
     clear c23
     by_cases c24 : 0 ≤ (rd t333 x8_2)
     rotate_left
     ·rw [if_neg c24] at H
      exact absurd H (by simp)
     rw [if_pos c24] at H
     have c24b0 : decide (0 ≤ (rd t333 x8_2)) = true := decide_eq_true c24
     clear c24
     by_cases c25 : (rd t333 x8_2) < (t336.length : Int)
     rotate_left
     ·rw [if_neg c25] at H
      exact absurd H (by simp)
     rw [if_pos c25] at H
     have c25b0 : decide ((rd t333 x8_2) < (t336.length : Int)) = true := decide_eq_true c25
     clear c25
     by_cases c26 : (rd t333 x8_2) < (l0.length : Int)
     rotate_left
     ·rw [if_neg c26] at H
      exact absurd H (by simp)
     rw [if_pos c26] at H
     have c26b0 : decide ((rd t333 x8_2) < (l0.length : Int)) = true := decide_eq_true c26
     clear c26
     obtain ⟨ji27, hji27⟩ : ∃ j_ : Int, (wrap64 (x8_2 - 1)) = j_ := ⟨_, rfl⟩
     replace H : (if 0 ≤ (ji27) then (if (ji27) < (t333.length : Int) then (if 0 ≤ (rd t333 (ji27)) then (if (rd t333 (ji27)) < (t336.length : Int) then (if (wrap64 ((rd t336 (rd t333 x8_2)) - ((rd_T89 l0 (rd t333 x8_2)).f0))) = (rd t336 (rd t333 (ji27))) then (impl_criticalPart.l1 k2 l0 t333 t336 x5_1 ji27) else (if x8_2 ≤ (wrap64 (x5_1 + 1)) then (if (wrap64 (x5_1 + 1)) ≤ (t333.length : Int) then (some ((t333.take ((wrap64 (x5_1 + 1)) : Int).toNat).drop (x8_2 : Int).toNat)) else (none)) else (none))) else (none)) else (none)) else (none)) else (none)) = some r := by first | (rw [hji27] at H; exact H) | (simp only [hji27] at H ⊢; exact H)
     have hji27w : (IntKind.i64.wrap (x8_2 - 1)) = ji27 := (i64_w _).trans hji27
     by_cases c28 : 0 ≤ (ji27)
     rotate_left
     ·rw [if_neg c28] at H
      exact absurd H (by simp)
     rw [if_pos c28] at H
     have c28b0 : decide (0 ≤ (ji27)) = true := decide_eq_true c28
     clear c28
     by_cases c29 : (ji27) < (t333.length : Int)
     rotate_left
     ·rw [if_neg c29] at H
      exact absurd H (by simp)
     rw [if_pos c29] at H
     have c29b0 : decide ((ji27) < (t333.length : Int)) = true := decide_eq_true c29
     clear c29
     by_cases c30 : 0 ≤ (rd t333 (ji27))
     rotate_left
     ·rw [if_neg c30] at H
      exact absurd H (by simp)
     rw [if_pos c30] at H
     have c30b0 : decide (0 ≤ (rd t333 (ji27))) = true := decide_eq_true c30
     clear c30
     by_cases c31 : (rd t333 (ji27)) < (t336.length : Int)
     rotate_left
     ·rw [if_neg c31] at H
      exact absurd H (by simp)
     rw [if_pos c31] at H
     have c31b0 : decide ((rd t333 (ji27)) < (t336.length : Int)) = true := decide_eq_true c31
     clear c31
     by_cases c32 : (wrap64 ((rd t336 (rd t333 x8_2)) - ((rd_T89 l0 (rd t333 x8_2)).f0))) = (rd t336 (rd t333 (ji27)))
     ·rw [if_pos c32] at H
      have c32b0 : ((wrap64 ((rd t336 (rd t333 x8_2)) - ((rd_T89 l0 (rd t333 x8_2)).f0))) == (rd t336 (rd t333 (ji27)))) = true := beq_iff_eq.mpr c32
      have c32b1 : ((wrap64 ((rd t336 (rd t333 x8_2)) - ((rd_T89 l0 (rd t333 x8_2)).f0))) != (rd t336 (rd t333 (ji27)))) = false := bne_eq_false_iff_eq.mpr c32
      clear c32
      have H' := Aside0.mk H
      clear H
      have p346 : 0 ≤ (x8_2 : Int) := of_decide_eq_true (by first | (with_reducible assumption) | assumption)
      have q346 : x8_2 < (t333.length : Int) := of_decide_eq_true (by first | (with_reducible assumption) | assumption)
      obtain ⟨ad346, e346, hx346_0⟩ := Kd.at_int (Kd.R_reads' HO_3.out).2.2 x8_2 p346 q346
      cases e346
      replace p346 := eq_true p346
      replace q346 := eq_true q346
      obtain ⟨Ao33, co33, eo33⟩ := Kd.R_slice HO_4.out
      subst eo33
      have p347 : 0 ≤ ((rd t333 x8_2) : Int) := of_decide_eq_true (by first | (with_reducible assumption) | assumption)
      have q347 : (rd t333 x8_2) < (t336.length : Int) := of_decide_eq_true (by first | (with_reducible assumption) | assumption)
      obtain ⟨ad347, e347, hx347_0⟩ := Kd.at_int (Kd.R_reads' HO_4.out).2.2 (rd t333 x8_2) p347 q347
      cases e347
      replace p347 := eq_true p347
      replace q347 := eq_true q347
      have p348 : 0 ≤ (x8_2 : Int) := of_decide_eq_true (by first | (with_reducible assumption) | assumption)
      have q348 : x8_2 < (t333.length : Int) := of_decide_eq_true (by first | (with_reducible assumption) | assumption)
      obtain ⟨ad348, e348, hx348_0⟩ := Kd.at_int (Kd.R_reads' HO_3.out).2.2 x8_2 p348 q348
      obtain rfl : ad346 = ad348 := (by injection e348)
      replace p348 := eq_true p348
      replace q348 := eq_true q348
      have p349 : 0 ≤ ((rd t333 x8_2) : Int) := of_decide_eq_true (by first | (with_reducible assumption) | assumption)
      have q349 : (rd t333 x8_2) < (l0.length : Int) := of_decide_eq_true (by first | (with_reducible assumption) | assumption)
      obtain ⟨ad349, e349, hx349_0, hx349_1, hx349_2, hx349_3⟩ := at_T89 HR0.out (rd t333 x8_2) p349 q349
      cases e349
      replace hx349_0 := (HB.out.cell (World.block_lt_of_cell? w _ hx349_0)).trans hx349_0
      replace hx349_1 := (HB.out.cell (World.block_lt_of_cell? w _ hx349_1)).trans hx349_1
      replace hx349_2 := (HB.out.cell (World.block_lt_of_cell? w _ hx349_2)).trans hx349_2
      replace hx349_3 := (HB.out.cell (World.block_lt_of_cell? w _ hx349_3)).trans hx349_3
      replace p349 := eq_true p349
      replace q349 := eq_true q349
      have p350 : 0 ≤ ((ji27) : Int) := of_decide_eq_true (by first | (with_reducible assumption) | assumption)
      have q350 : (ji27) < (t333.length : Int) := of_decide_eq_true (by first | (with_reducible assumption) | assumption)
      obtain ⟨ad350, e350, hx350_0⟩ := Kd.at_int (Kd.R_reads' HO_3.out).2.2 (ji27) p350 q350
      obtain rfl : ad346 = ad350 := (by injection e350)
      replace p350 := eq_true p350
      replace q350 := eq_true q350
      have p351 : 0 ≤ ((rd t333 (ji27)) : Int) := of_decide_eq_true (by first | (with_reducible assumption) | assumption)
      have q351 : (rd t333 (ji27)) < (t336.length : Int) := of_decide_eq_true (by first | (with_reducible assumption) | assumption)
      obtain ⟨ad351, e351, hx351_0⟩ := Kd.at_int (Kd.R_reads' HO_4.out).2.2 (rd t333 (ji27)) p351 q351
      obtain rfl : ad347 = ad351 := (by injection e351)
      replace p351 := eq_true p351
      replace q351 := eq_true q351
      go_wp2
      repeat (go_quiet (fail); try go_wp2)
      go_roundg k2
      case measure => have := HK1.out; have := HK2.out; omega
      case rel => exact ⟨(ji27), (by first | rfl | (simp; done) | (simp only [← hji27] <;> (first | rfl | simp)) | (simp [*]; done)), H', ⟨by have := HK1.out; have := HK2.out; omega⟩, ⟨bR HO_3.out⟩, ⟨bR HO_4.out⟩, ⟨bw HB.out⟩⟩
     rw [if_neg c32] at H
     have c32b0 : ((wrap64 ((rd t336 (rd t333 x8_2)) - ((rd_T89 l0 (rd t333 x8_2)).f0))) == (rd t336 (rd t333 (ji27)))) = false := beq_eq_false_iff_ne.mpr c32
     have c32b1 : ((wrap64 ((rd t336 (rd t333 x8_2)) - ((rd_T89 l0 (rd t333 x8_2)).f0))) != (rd t336 (rd t333 (ji27)))) = true := bne_iff_ne.mpr c32
     have c34b0 := eq_true (of_decide_eq_true (by first | (with_reducible assumption) | assumption) : 0 ≤ x8_2)
     by_cases c35 : x8_2 ≤ (wrap64 (x5_1 + 1))
     rotate_left
     ·rw [if_neg c35] at H
      exact absurd H (by simp)
     rw [if_pos c35] at H
     have c35b0 := eq_true c35
     have c35b1 : decide (x8_2 ≤ (wrap64 (x5_1 + 1))) = true := decide_eq_true c35
     by_cases c36 : (wrap64 (x5_1 + 1)) ≤ (t333.length : Int)
     rotate_left
     ·rw [if_neg c36] at H
      exact absurd H (by simp)
     rw [if_pos c36] at H
     have c36b0 := eq_true c36
     have c36b1 : decide ((wrap64 (x5_1 + 1)) ≤ (t333.length : Int)) = true := decide_eq_true c36
     obtain ⟨y352, hy352⟩ : ∃ y_ : List Int, y_ = ((t333.take ((wrap64 (x5_1 + 1)) : Int).toNat).drop (x8_2 : Int).toNat) := ⟨_, rfl⟩
     replace H : (some y352) = some r := by first | (rw [hy352]; with_reducible exact H) | (have H2_ := (Option.bind_some _ _).symm.trans H; rw [hy352]; with_reducible exact H2_) | (have H2_ := (Option.bind_some _ _).symm.trans H; with_reducible exact H2_) | with_reducible exact H | (rw [hy352]; exact H) | exact H
     have Ny352 := Aside0.mk hy352
     clear hy352
     obtain rfl := Option.some.inj H
     have p346 : 0 ≤ (x8_2 : Int) := of_decide_eq_true (by first | (with_reducible assumption) | assumption)
     have q346 : x8_2 < (t333.length : Int) := of_decide_eq_true (by first | (with_reducible assumption) | assumption)
     obtain ⟨ad346, e346, hx346_0⟩ := Kd.at_int (Kd.R_reads' HO_3.out).2.2 x8_2 p346 q346
     cases e346
     replace p346 := eq_true p346
     replace q346 := eq_true q346
     obtain ⟨Ao37, co37, eo37⟩ := Kd.R_slice HO_4.out
     subst eo37
     have p347 : 0 ≤ ((rd t333 x8_2) : Int) := of_decide_eq_true (by first | (with_reducible assumption) | assumption)
     have q347 : (rd t333 x8_2) < (t336.length : Int) := of_decide_eq_true (by first | (with_reducible assumption) | assumption)
     obtain ⟨ad347, e347, hx347_0⟩ := Kd.at_int (Kd.R_reads' HO_4.out).2.2 (rd t333 x8_2) p347 q347
     cases e347
     replace p347 := eq_true p347
     replace q347 := eq_true q347
     have p348 : 0 ≤ (x8_2 : Int) := of_decide_eq_true (by first | (with_reducible assumption) | assumption)
     have q348 : x8_2 < (t333.length : Int) := of_decide_eq_true (by first | (with_reducible assumption) | assumption)
     obtain ⟨ad348, e348, hx348_0⟩ := Kd.at_int (Kd.R_reads' HO_3.out).2.2 x8_2 p348 q348
     obtain rfl : ad346 = ad348 := (by injection e348)
     replace p348 := eq_true p348
     replace q348 := eq_true q348
     have p349 : 0 ≤ ((rd t333 x8_2) : Int) := of_decide_eq_true (by first | (with_reducible assumption) | assumption)
     have q349 : (rd t333 x8_2) < (l0.length : Int) := of_decide_eq_true (by first | (with_reducible assumption) | assumption)
     obtain ⟨ad349, e349, hx349_0, hx349_1, hx349_2, hx349_3⟩ := at_T89 HR0.out (rd t333 x8_2) p349 q349
     cases e349
     replace hx349_0 := (HB.out.cell (World.block_lt_of_cell? w _ hx349_0)).trans hx349_0
     replace hx349_1 := (HB.out.cell (World.block_lt_of_cell? w _ hx349_1)).trans hx349_1
     replace hx349_2 := (HB.out.cell (World.block_lt_of_cell? w _ hx349_2)).trans hx349_2
     replace hx349_3 := (HB.out.cell (World.block_lt_of_cell? w _ hx349_3)).trans hx349_3
     replace p349 := eq_true p349
     replace q349 := eq_true q349
     have p350 : 0 ≤ ((ji27) : Int) := of_decide_eq_true (by first | (with_reducible assumption) | assumption)
     have q350 : (ji27) < (t333.length : Int) := of_decide_eq_true (by first | (with_reducible assumption) | assumption)
     obtain ⟨ad350, e350, hx350_0⟩ := Kd.at_int (Kd.R_reads' HO_3.out).2.2 (ji27) p350 q350
     obtain rfl : ad346 = ad350 := (by injection e350)
     replace p350 := eq_true p350
     replace q350 := eq_true q350
     have p351 : 0 ≤ ((rd t333 (ji27)) : Int) := of_decide_eq_true (by first | (with_reducible assumption) | assumption)
     have q351 : (rd t333 (ji27)) < (t336.length : Int) := of_decide_eq_true (by first | (with_reducible assumption) | assumption)
     obtain ⟨ad351, e351, hx351_0⟩ := Kd.at_int (Kd.R_reads' HO_4.out).2.2 (rd t333 (ji27)) p351 q351
     obtain rfl : ad347 = ad351 := (by injection e351)
     replace p351 := eq_true p351
     replace q351 := eq_true q351
     have q38 : ((wrap64 (x5_1 + 1)) : Int) ≤ ((t333.length : Int) : Int) := of_decide_eq_true (by first | (with_reducible assumption) | assumption)
     obtain ⟨i038, hi038, _, hsz38, _⟩ := info_parts info3
     have hroom38 : t333.length ≤ co5 := (Kd.R_reads' HO_3.out).2.1
     have hC38 : Kd.C (Kd.int .i64) _ (some ad346) t333.length t333 := (Kd.R_reads' HO_3.out).2.2
     have ql38 : (x8_2 : Int) ≤ ((wrap64 (x5_1 + 1)) : Int) := of_decide_eq_true (by first | (with_reducible assumption) | assumption)
     have q038 : (0 : Int) ≤ (x8_2 : Int) := of_decide_eq_true (by first | (with_reducible assumption) | assumption)
     have hcut38 := cut_mid (P := Try.prog) 23 3 .i64 .i64 Try.underlying23 hi038 1 hsz38 (some ad346) t333.length co5 x8_2 (wrap64 (x5_1 + 1)) q038 ql38 q38 hroom38
     have hr38 := Kd.C_mid (lo := (x8_2 : Int).toNat) (hi := ((wrap64 (x5_1 + 1)) : Int).toNat) (c := co5) hC38 (by omega) (by omega) hroom38
     obtain ⟨A38, hA38⟩ : ∃ A1, A1 = (if co5 = (x8_2 : Int).toNat then (some ad346) else ((some ad346) : Option Addr).map (·.add ((x8_2 : Int).toNat * 1))) := ⟨_, rfl⟩
     obtain ⟨c38, hc38⟩ : ∃ c1, c1 = co5 - (x8_2 : Int).toNat := ⟨_, rfl⟩
     have hy38 : y352.length = ((wrap64 (x5_1 + 1)) : Int).toNat - (x8_2 : Int).toNat := (by rw [Ny352.out, List.length_drop, List.length_take] <;> omega)
     rw [show ((t333).take ((wrap64 (x5_1 + 1)) : Int).toNat).drop (x8_2 : Int).toNat = y352 from Ny352.out.symm] at hr38
     replace hr38 : Kd.C (Kd.int .i64) _ A38 y352.length y352 := (by rw [hA38]; exact hr38)
     rw [← hy38, ← hA38, ← hc38] at hcut38
     have HR355 := Aside0.mk hr38
     have HC355 := Aside0.mk (show y352.length ≤ c38 from by rw [hy38, hc38]; exact Nat.sub_le_sub_right (Nat.le_trans (by omega) hroom38) _)
     have HM38 := Aside0.mk (show Kd.Q (Kd.int .i64) 3 _ w.heap.size _ (.slice A38 y352.length c38) y352 from by have hq_ := Kd.Q_drop (k := (x8_2 : Int).toNat) (Kd.Q_of_R (Kd.R_take (m := ((wrap64 (x5_1 + 1)) : Int).toNat) HO_3.out (by omega))) (by rw [List.length_take]; omega); rw [hy38, hA38, hc38, Ny352.out]; exact hq_)
     clear hr38 hC38 hroom38 hi038 hsz38 hc38
     have KY38 := Aside0.mk hy38
     have KA38 := Aside0.mk hA38
     clear hy38 hA38
     have KL38 := Aside0.mk (show ((wrap64 (x5_1 + 1)) : Int).toNat ≤ t333.length from by omega)
     have KM38 := Aside0.mk (show (x8_2 : Int).toNat ≤ ((wrap64 (x5_1 + 1)) : Int).toNat from by omega)
     replace q38 := eq_true q38
     go_wp2
     repeat (go_quiet (fail); try go_wp2)
     go_ret
     exact ⟨_, by first | rfl | (simp [errW_none, errW_some] <;> rfl) | (simp only [← hji27]; first | rfl | (simp [errW_none, errW_some] <;> rfl)) | (simp [*, errW_none, errW_some] <;> rfl), by (with_reducible repeat (first | apply Kd.Q_alloc | apply Kd.Q_drewN | apply Kd.Q_drew)); exact Kd.Q_mono HM38.out (fun _ hk => trivial), bw HB.out⟩

end Go.Proofs.Ytgpnophjbibhhaa.X
