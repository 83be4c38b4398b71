-- Written by a program of this session (wip/gen/xp.py, over the kit's printer). Not trusted: Lean checks it.
import Derived.Test.YtdnphdbahhfcgaaX0
import Derived.Test.YtdnphdbahhfcgaaXf4
import Derived.Test.YtdnphdbahhfcgaaXf6
import Derived.Test.YtdnphdbahhfcgaaXf9
namespace Go.Proofs.Ytdnphdbahhfcgaa.X
open Go.RowKit Go.Proofs.YtdnphdbahhfcgaaW.PrintWords Go.Proofs.YtdnphdbahhfcgaaW.PrintLast Go.Proofs.YtdnphdbahhfcgaaW.PrintMore
attribute [local go_sem] max2_int min2_int max_two min_two max_three min_three max_four min_four   -- for this text's walks alone
set_option linter.unusedVariables false
set_option linter.unusedSimpArgs false

/-! ### laws_FnExactIsShopProof: function 3 -/
def laws_FnExactIsShopProof.j0 : Nat → List (S43) → List (S43) → Bool → Int → List (List (S75)) → Int → List (List (S62)) → Option (Bool)
 | 0, _, _, _, _, _, _, _ => none
 | k + 1, x2, x11, x51, x336000, x336001, x352000, x352001 => if x51 = true then (some false) else ((laws_toJobShop.f k x336000 x336001).bind fun bt357 => ((laws_eqJobShop.f k x352000 x352001 bt357.1 bt357.2).bind fun t361 => (if t361 = true then ((laws_toIntA2S.f k x2).bind fun t362 => ((laws_eqIntA2S.f k x11 t362).bind fun t365 => (if t365 = true then (some true) else (some false)))) else (some false))))
def laws_FnExactIsShopProof.f (k : Nat) (a0_0 : Int) (l0_1 : List (List (S75))) (a1 : Int) (l2 : List (S43)) : Option (Bool) := (laws_szJobShop.f k a0_0 l0_1 1048576).bind fun t336 => (if t336 < 0 then (some true) else ((laws_szIntA2S.f l2 t336).bind fun t337 => (if t337 < 0 then (some true) else ((laws_toJobShop.f k a0_0 l0_1).bind fun bt338 => ((laws_toIntA2S.f k l2).bind fun t342 => ((spec_IsShopProof.f k bt338.1 bt338.2 a1 t342).bind fun bt345 => ((laws_toJobShop.f k a0_0 l0_1).bind fun bt347 => ((laws_toIntA2S.f k l2).bind fun t352 => ((impl_IsShopProof.f k bt347.1 bt347.2 a1 t352).bind fun bt355 => (if (bt355.1 != bt345.1) = true then (laws_FnExactIsShopProof.j0 k l2 t352 true a0_0 l0_1 bt347.1 bt347.2) else (laws_FnExactIsShopProof.j0 k l2 t352 (bt355.2 != bt345.2) a0_0 l0_1 bt347.1 bt347.2)))))))))))
theorem laws_FnExactIsShopProof.mono_l : ∀ k, (∀ y0 y1 y2 y3 y4 y5 y6, LeO (laws_FnExactIsShopProof.j0 k y0 y1 y2 y3 y4 y5 y6) (laws_FnExactIsShopProof.j0 (k + 1) y0 y1 y2 y3 y4 y5 y6))
 | 0 => fun _ _ _ _ _ _ _ r h => by simp [laws_FnExactIsShopProof.j0] at h
 | k + 1 => by
  have ih0 := laws_FnExactIsShopProof.mono_l k
  ·intro y0 y1 y2 y3 y4 y5 y6
   unfold laws_FnExactIsShopProof.j0
   repeat' first
   | (with_reducible exact ih0 _ _ _ _ _ _ _)
   | (with_reducible exact impl_IsShopProof.mono _ _ _ _ _)
   | (with_reducible exact laws_eqIntA2S.mono _ _ _)
   | (with_reducible exact laws_eqJobShop.mono _ _ _ _ _)
   | (with_reducible exact laws_szJobShop.mono _ _ _ _)
   | (with_reducible exact laws_toIntA2S.mono _ _)
   | (with_reducible exact laws_toJobShop.mono _ _ _)
   | (with_reducible exact spec_IsShopProof.mono _ _ _ _ _)
   | (with_reducible exact LeO.refl _)
   | (with_reducible exact LeO.none _)
   | (with_reducible refine LeO.ite ?_ ?_)
   | (with_reducible refine LeO.bind ?_ (fun _ => ?_))
   | exact ih0 _ _ _ _ _ _ _
   | exact impl_IsShopProof.mono _ _ _ _ _
   | exact laws_eqIntA2S.mono _ _ _
   | exact laws_eqJobShop.mono _ _ _ _ _
   | exact laws_szJobShop.mono _ _ _ _
   | exact laws_toIntA2S.mono _ _
   | exact laws_toJobShop.mono _ _ _
   | exact spec_IsShopProof.mono _ _ _ _ _
   | exact LeO.none _
   | refine LeO.ite ?_ ?_
   | refine LeO.bind ?_ (fun _ => ?_)
theorem laws_FnExactIsShopProof.mono : ∀ a0 a1 a2 a3 k, LeO (laws_FnExactIsShopProof.f k a0 a1 a2 a3) (laws_FnExactIsShopProof.f (k + 1) a0 a1 a2 a3) := by
 intro a0 a1 a2 a3 k
 have ih0 := laws_FnExactIsShopProof.mono_l k
 unfold laws_FnExactIsShopProof.f
 repeat' first
   | (with_reducible exact ih0 _ _ _ _ _ _ _)
   | (with_reducible exact impl_IsShopProof.mono _ _ _ _ _)
   | (with_reducible exact laws_eqIntA2S.mono _ _ _)
   | (with_reducible exact laws_eqJobShop.mono _ _ _ _ _)
   | (with_reducible exact laws_szJobShop.mono _ _ _ _)
   | (with_reducible exact laws_toIntA2S.mono _ _)
   | (with_reducible exact laws_toJobShop.mono _ _ _)
   | (with_reducible exact spec_IsShopProof.mono _ _ _ _ _)
   | (with_reducible exact LeO.refl _)
   | (with_reducible exact LeO.none _)
   | (with_reducible refine LeO.ite ?_ ?_)
   | (with_reducible refine LeO.bind ?_ (fun _ => ?_))
   | exact ih0 _ _ _ _ _ _ _
   | exact impl_IsShopProof.mono _ _ _ _ _
   | exact laws_eqIntA2S.mono _ _ _
   | exact laws_eqJobShop.mono _ _ _ _ _
   | exact laws_szJobShop.mono _ _ _ _
   | exact laws_toIntA2S.mono _ _
   | exact laws_toJobShop.mono _ _ _
   | exact spec_IsShopProof.mono _ _ _ _ _
   | exact LeO.none _
   | refine LeO.ite ?_ ?_
   | refine LeO.bind ?_ (fun _ => ?_)
set_option maxHeartbeats 8000000 in
set_option maxRecDepth 100000 in
theorem laws_FnExactIsShopProof.calls (k : Nat) (a0_0 : Int) (A0_1 : Option Addr) (c0_1 : Nat) (l0_1 : List (List (S75))) (a1 : Int) (A2 : Option Addr) (c2 : Nat) (l2 : List (S43)) (r : Bool) (w : World) (hr0_1 : Kd.C (Kd.slice 75 k75) w A0_1 l0_1.length l0_1) (hc0_1 : l0_1.length ≤ c0_1) (hr2 : Kd.C k43 w A2 l2.length l2) (hc2 : l2.length ≤ c2) (h : laws_FnExactIsShopProof.f k a0_0 l0_1 a1 l2 = some r) :
  Calls Try.prog 3 #[.agg #[.int .i64 a0_0, .slice A0_1 l0_1.length c0_1], .int .i64 a1, .slice A2 l2.length c2] w fun e w' => e = .returned (.bool r) ∧ Below w.heap.size w w' := by
 have hu24 := Try.underlying24
 have hu32 := Try.underlying32
 have HR0_1 := Aside0.mk hr0_1
 have HC0_1 := Aside0.mk hc0_1
 clear hr0_1 hc0_1
 have HR2 := Aside0.mk hr2
 have HC2 := Aside0.mk hc2
 clear hr2 hc2
 have HB := Aside0.mk (Below.refl w.heap.size w)
 have H : ((laws_szJobShop.f k a0_0 l0_1 1048576).bind fun t336 => (if t336 < 0 then (some true) else ((laws_szIntA2S.f l2 t336).bind fun t337 => (if t337 < 0 then (some true) else ((laws_toJobShop.f k a0_0 l0_1).bind fun bt338 => ((laws_toIntA2S.f k l2).bind fun t342 => ((spec_IsShopProof.f k bt338.1 bt338.2 a1 t342).bind fun bt345 => ((laws_toJobShop.f k a0_0 l0_1).bind fun bt347 => ((laws_toIntA2S.f k l2).bind fun t352 => ((impl_IsShopProof.f k bt347.1 bt347.2 a1 t352).bind fun bt355 => (if (bt355.1 != bt345.1) = true then (laws_FnExactIsShopProof.j0 k l2 t352 true a0_0 l0_1 bt347.1 bt347.2) else (laws_FnExactIsShopProof.j0 k l2 t352 (bt355.2 != bt345.2) a0_0 l0_1 bt347.1 bt347.2)))))))))))) = some r := h
 clear h
 replace H := Option.bind_eq_some_iff.mp H
 obtain ⟨t336, A40, H⟩ := H
 replace H : (if t336 < 0 then (some true) else ((laws_szIntA2S.f l2 t336).bind fun t337 => (if t337 < 0 then (some true) else ((laws_toJobShop.f k a0_0 l0_1).bind fun bt338 => ((laws_toIntA2S.f k l2).bind fun t342 => ((spec_IsShopProof.f k bt338.1 bt338.2 a1 t342).bind fun bt345 => ((laws_toJobShop.f k a0_0 l0_1).bind fun bt347 => ((laws_toIntA2S.f k l2).bind fun t352 => ((impl_IsShopProof.f k bt347.1 bt347.2 a1 t352).bind fun bt355 => (if (bt355.1 != bt345.1) = true then (laws_FnExactIsShopProof.j0 k l2 t352 true a0_0 l0_1 bt347.1 bt347.2) else (laws_FnExactIsShopProof.j0 k l2 t352 (bt355.2 != bt345.2) a0_0 l0_1 bt347.1 bt347.2))))))))))) = some r := H
 have A4 := Aside0.mk A40
 clear A40
 by_cases c5 : t336 < 0
 ·rw [if_pos c5] at H
  have c5b0 : decide (t336 < 0) = true := decide_eq_true c5
  clear c5
  obtain rfl := Option.some.inj H
  go_enter Try.func3, Try.ntmps3
  go_wp2_with (first | ((with_reducible refine gate_dst (N := 3) rfl ?_); refine box_event ?hg (N := 3) ?hd (cs := #[.int .i64 a0_0, .slice A0_1 l0_1.length c0_1]) (t := 24) ?hr ?_; (case hd => rfl); (case hg => rfl); (case hr => first | (go_simp; done) | (go_simp; rfl)); intro gb335 hg w6 hbox hb; have n0_ := Aside0.mk (below_step (bw HB.out) hb); have n1_ := Aside0.mk (hbox); have n2_ := ge_ hg HB.out; have n3_ := ge_ hg HB.out; replace HB := n0_; have BK335 := n1_; have GW335 := n2_; have GE335 := n3_; clear n0_ n1_ n2_ n3_; clear hb hbox hg; obtain ⟨hcz7_0, hcz7_1, hfz7_0, hfz7_1⟩ := bz2 BK335.out) | ((with_reducible refine gate_callee (f := 4) rfl ?_); refine goesL_ (some 16) rfl rfl Try.func4 (by kernel_rfl) rfl #[.agg #[.int .i64 a0_0, .slice A0_1 l0_1.length c0_1], .int .i64 1048576] rfl (by (try simp only [mA_]); first | done | rfl | (simp only [List.length_drop, List.length_take]; rfl)) ?_; (with_reducible refine (laws_szJobShop.calls k a0_0 _ _ l0_1 1048576 t336 _ ?side1 ?side2 A4.out).mono ?_); (case side1 => first | exact bC HR0_1.out HB.out | exact Kd.C_below HR0_1.out HB.out); (case side2 => exact HC0_1.out); rintro e w8 ⟨rfl, hb⟩; refine ⟨_, rfl, ?_⟩; have n0_ := Aside0.mk (blk_below (bs BK335.out) hb); have n1_ := Aside0.mk (below_step (by repeat (first | (with_reducible first | exact bw HB.out | refine bset ?_ | apply bA | apply bN | apply bD) | exact HB.out)) hb); replace BK335 := n0_; replace HB := n1_; clear n0_ n1_; (try clear hb); (try clear hb2); (try clear hk); (try clear hi)))
  go_ret
  exact ⟨by first | rfl | (simp [errW_none, errW_some] <;> rfl) | (simp [*, errW_none, errW_some] <;> rfl), by repeat (first | (with_reducible first | exact bw HB.out | refine bset ?_ | apply bA | apply bN | apply bD) | exact HB.out)⟩
 rw [if_neg c5] at H
 have c5b0 : decide (t336 < 0) = false := decide_eq_false c5
 clear c5
 replace H := Option.bind_eq_some_iff.mp H
 obtain ⟨t337, A90, H⟩ := H
 replace H : (if t337 < 0 then (some true) else ((laws_toJobShop.f k a0_0 l0_1).bind fun bt338 => ((laws_toIntA2S.f k l2).bind fun t342 => ((spec_IsShopProof.f k bt338.1 bt338.2 a1 t342).bind fun bt345 => ((laws_toJobShop.f k a0_0 l0_1).bind fun bt347 => ((laws_toIntA2S.f k l2).bind fun t352 => ((impl_IsShopProof.f k bt347.1 bt347.2 a1 t352).bind fun bt355 => (if (bt355.1 != bt345.1) = true then (laws_FnExactIsShopProof.j0 k l2 t352 true a0_0 l0_1 bt347.1 bt347.2) else (laws_FnExactIsShopProof.j0 k l2 t352 (bt355.2 != bt345.2) a0_0 l0_1 bt347.1 bt347.2))))))))) = some r := H
 have A9 := Aside0.mk A90
 clear A90
 by_cases c10 : t337 < 0
 ·rw [if_pos c10] at H
  have c10b0 : decide (t337 < 0) = true := decide_eq_true c10
  clear c10
  obtain rfl := Option.some.inj H
  go_enter Try.func3, Try.ntmps3
  go_wp2_with (first | ((with_reducible refine gate_dst (N := 3) rfl ?_); refine box_event ?hg (N := 3) ?hd (cs := #[.int .i64 a0_0, .slice A0_1 l0_1.length c0_1]) (t := 24) ?hr ?_; (case hd => rfl); (case hg => rfl); (case hr => first | (go_simp; done) | (go_simp; rfl)); intro gb335 hg w11 hbox hb; have n0_ := Aside0.mk (below_step (bw HB.out) hb); have n1_ := Aside0.mk (hbox); have n2_ := ge_ hg HB.out; have n3_ := ge_ hg HB.out; replace HB := n0_; have BK335 := n1_; have GW335 := n2_; have GE335 := n3_; clear n0_ n1_ n2_ n3_; clear hb hbox hg; obtain ⟨hcz12_0, hcz12_1, hfz12_0, hfz12_1⟩ := bz2 BK335.out) | ((with_reducible refine gate_callee (f := 4) rfl ?_); refine goesL_ (some 16) rfl rfl Try.func4 (by kernel_rfl) rfl #[.agg #[.int .i64 a0_0, .slice A0_1 l0_1.length c0_1], .int .i64 1048576] rfl (by (try simp only [mA_]); first | done | rfl | (simp only [List.length_drop, List.length_take]; rfl)) ?_; (with_reducible refine (laws_szJobShop.calls k a0_0 _ _ l0_1 1048576 t336 _ ?side1 ?side2 A4.out).mono ?_); (case side1 => first | exact bC HR0_1.out HB.out | exact Kd.C_below HR0_1.out HB.out); (case side2 => exact HC0_1.out); rintro e w13 ⟨rfl, hb⟩; refine ⟨_, rfl, ?_⟩; have n0_ := Aside0.mk (blk_below (bs BK335.out) hb); have n1_ := Aside0.mk (below_step (by repeat (first | (with_reducible first | exact bw HB.out | refine bset ?_ | apply bA | apply bN | apply bD) | exact HB.out)) hb); replace BK335 := n0_; replace HB := n1_; clear n0_ n1_; (try clear hb); (try clear hb2); (try clear hk); (try clear hi)) | ((with_reducible refine gate_callee (f := 5) rfl ?_); refine goesL_ (some 21) rfl rfl Try.func5 (by kernel_rfl) rfl #[.slice A2 l2.length c2, .int .i64 t336] rfl (by (try simp only [mA_]); first | done | rfl | (simp only [List.length_drop, List.length_take]; rfl)) ?_; (with_reducible refine (laws_szIntA2S.calls _ _ l2 t336 t337 _ ?side1 ?side2 A9.out).mono ?_); (case side1 => first | exact bC HR2.out HB.out | exact Kd.C_below HR2.out HB.out); (case side2 => exact HC2.out); rintro e w' ⟨rfl, ⟨nd, rfl⟩⟩; refine ⟨_, rfl, ?_⟩))
  go_ret
  exact ⟨by first | rfl | (simp [errW_none, errW_some] <;> rfl) | (simp [*, errW_none, errW_some] <;> rfl), by repeat (first | (with_reducible first | exact bw HB.out | refine bset ?_ | apply bA | apply bN | apply bD) | exact HB.out)⟩
 rw [if_neg c10] at H
 have c10b0 : decide (t337 < 0) = false := decide_eq_false c10
 clear c10
 replace H := Option.bind_eq_some_iff.mp H
 obtain ⟨⟨t338, t339⟩, A140, H⟩ := H
 replace H : ((laws_toIntA2S.f k l2).bind fun t342 => ((spec_IsShopProof.f k t338 t339 a1 t342).bind fun bt345 => ((laws_toJobShop.f k a0_0 l0_1).bind fun bt347 => ((laws_toIntA2S.f k l2).bind fun t352 => ((impl_IsShopProof.f k bt347.1 bt347.2 a1 t352).bind fun bt355 => (if (bt355.1 != bt345.1) = true then (laws_FnExactIsShopProof.j0 k l2 t352 true a0_0 l0_1 bt347.1 bt347.2) else (laws_FnExactIsShopProof.j0 k l2 t352 (bt355.2 != bt345.2) a0_0 l0_1 bt347.1 bt347.2))))))) = some r := H
 have A14 := Aside0.mk A140
 clear A140
 replace H := Option.bind_eq_some_iff.mp H
 obtain ⟨t342, A150, H⟩ := H
 replace H : ((spec_IsShopProof.f k t338 t339 a1 t342).bind fun bt345 => ((laws_toJobShop.f k a0_0 l0_1).bind fun bt347 => ((laws_toIntA2S.f k l2).bind fun t352 => ((impl_IsShopProof.f k bt347.1 bt347.2 a1 t352).bind fun bt355 => (if (bt355.1 != bt345.1) = true then (laws_FnExactIsShopProof.j0 k l2 t352 true a0_0 l0_1 bt347.1 bt347.2) else (laws_FnExactIsShopProof.j0 k l2 t352 (bt355.2 != bt345.2) a0_0 l0_1 bt347.1 bt347.2)))))) = some r := H
 have A15 := Aside0.mk A150
 clear A150
 replace H := Option.bind_eq_some_iff.mp H
 obtain ⟨⟨t345, t346⟩, A160, H⟩ := H
 replace H : ((laws_toJobShop.f k a0_0 l0_1).bind fun bt347 => ((laws_toIntA2S.f k l2).bind fun t352 => ((impl_IsShopProof.f k bt347.1 bt347.2 a1 t352).bind fun bt355 => (if (bt355.1 != t345) = true then (laws_FnExactIsShopProof.j0 k l2 t352 true a0_0 l0_1 bt347.1 bt347.2) else (laws_FnExactIsShopProof.j0 k l2 t352 (bt355.2 != t346) a0_0 l0_1 bt347.1 bt347.2))))) = some r := H
 have A16 := Aside0.mk A160
 clear A160
 replace H := Option.bind_eq_some_iff.mp H
 obtain ⟨⟨t347, t348⟩, A170, H⟩ := H
 replace H : ((laws_toIntA2S.f k l2).bind fun t352 => ((impl_IsShopProof.f k t347 t348 a1 t352).bind fun bt355 => (if (bt355.1 != t345) = true then (laws_FnExactIsShopProof.j0 k l2 t352 true a0_0 l0_1 t347 t348) else (laws_FnExactIsShopProof.j0 k l2 t352 (bt355.2 != t346) a0_0 l0_1 t347 t348)))) = some r := H
 have A17 := Aside0.mk A170
 clear A170
 replace H := Option.bind_eq_some_iff.mp H
 obtain ⟨t352, A180, H⟩ := H
 replace H : ((impl_IsShopProof.f k t347 t348 a1 t352).bind fun bt355 => (if (bt355.1 != t345) = true then (laws_FnExactIsShopProof.j0 k l2 t352 true a0_0 l0_1 t347 t348) else (laws_FnExactIsShopProof.j0 k l2 t352 (bt355.2 != t346) a0_0 l0_1 t347 t348))) = some r := H
 have A18 := Aside0.mk A180
 clear A180
 replace H := Option.bind_eq_some_iff.mp H
 obtain ⟨⟨t355, t356⟩, A190, H⟩ := H
 replace H : (if (t355 != t345) = true then (laws_FnExactIsShopProof.j0 k l2 t352 true a0_0 l0_1 t347 t348) else (laws_FnExactIsShopProof.j0 k l2 t352 (t356 != t346) a0_0 l0_1 t347 t348)) = some r := H
 have A19 := Aside0.mk A190
 clear A190
 have HC20 := Aside0.mk H
 clear H
 go_enter Try.func3, Try.ntmps3
 go_upto_region 12 with (first | ((with_reducible refine gate_dst (N := 3) rfl ?_); refine box_event ?hg (N := 3) ?hd (cs := #[.int .i64 a0_0, .slice A0_1 l0_1.length c0_1]) (t := 24) ?hr ?_; (case hd => rfl); (case hg => rfl); (case hr => first | (go_simp; done) | (go_simp; rfl)); intro gb335 hg w21 hbox hb; have n0_ := Aside0.mk (below_step (bw HB.out) hb); have n1_ := Aside0.mk (hbox); have n2_ := ge_ hg HB.out; have n3_ := ge_ hg HB.out; replace HB := n0_; have BK335 := n1_; have GW335 := n2_; have GE335 := n3_; clear n0_ n1_ n2_ n3_; clear hb hbox hg; obtain ⟨hcz22_0, hcz22_1, hfz22_0, hfz22_1⟩ := bz2 BK335.out) | ((with_reducible refine gate_callee (f := 4) rfl ?_); refine goesL_ (some 16) rfl rfl Try.func4 (by kernel_rfl) rfl #[.agg #[.int .i64 a0_0, .slice A0_1 l0_1.length c0_1], .int .i64 1048576] rfl (by (try simp only [mA_]); first | done | rfl | (simp only [List.length_drop, List.length_take]; rfl)) ?_; (with_reducible refine (laws_szJobShop.calls k a0_0 _ _ l0_1 1048576 t336 _ ?side1 ?side2 A4.out).mono ?_); (case side1 => first | exact bC HR0_1.out HB.out | exact Kd.C_below HR0_1.out HB.out); (case side2 => exact HC0_1.out); rintro e w23 ⟨rfl, hb⟩; refine ⟨_, rfl, ?_⟩; have n0_ := Aside0.mk (blk_below (bs BK335.out) hb); have n1_ := Aside0.mk (below_step (by repeat (first | (with_reducible first | exact bw HB.out | refine bset ?_ | apply bA | apply bN | apply bD) | exact HB.out)) hb); replace BK335 := n0_; replace HB := n1_; clear n0_ n1_; (try clear hb); (try clear hb2); (try clear hk); (try clear hi)) | ((with_reducible refine gate_callee (f := 5) rfl ?_); refine goesL_ (some 21) rfl rfl Try.func5 (by kernel_rfl) rfl #[.slice A2 l2.length c2, .int .i64 t336] rfl (by (try simp only [mA_]); first | done | rfl | (simp only [List.length_drop, List.length_take]; rfl)) ?_; (with_reducible refine (laws_szIntA2S.calls _ _ l2 t336 t337 _ ?side1 ?side2 A9.out).mono ?_); (case side1 => first | exact bC HR2.out HB.out | exact Kd.C_below HR2.out HB.out); (case side2 => exact HC2.out); rintro e w' ⟨rfl, ⟨nd, rfl⟩⟩; refine ⟨_, rfl, ?_⟩; (try (rw [drewN_self w23]; generalize hq_ : World.drewN w23 _ = w23; have n0_ : Aside0 (w23.heap[gb335]? = some (.cells #[.int .i64 a0_0, .slice A0_1 l0_1.length c0_1] 24 (0, 0))) := ⟨by rw [← hq_]; exact (bs BK335.out)⟩; have n1_ : Aside0 (Below w.heap.size w w23) := ⟨by rw [← hq_]; exact (by repeat (first | (with_reducible first | exact bw HB.out | refine bset ?_ | apply bA | apply bN | apply bD) | exact HB.out))⟩; clear BK335 HB hq_; have BK335 := n0_; have HB := n1_; clear n0_ n1_)); obtain ⟨hcz24_0, hcz24_1, hfz24_0, hfz24_1⟩ := bz2 BK335.out) | ((with_reducible refine gate_callee (f := 7) rfl ?_); refine goesL_ (some 26) rfl rfl Try.func7 (by kernel_rfl) rfl #[.agg #[.int .i64 a0_0, .slice A0_1 l0_1.length c0_1]] rfl (by (try simp only [mA_]); first | done | rfl | (simp only [List.length_drop, List.length_take]; rfl)) ?_; (with_reducible refine (laws_toJobShop.calls k a0_0 _ _ l0_1 t338 t339 _ ?side1 ?side2 A14.out).mono ?_); (case side1 => first | exact bC HR0_1.out HB.out | exact Kd.C_below HR0_1.out HB.out); (case side2 => exact HC0_1.out); rintro e w25 ⟨v340, rfl, ho0, hb⟩; refine ⟨_, rfl, ?_⟩; have n0_ := Aside0.mk (Kd.S_lower ho0 (below_size (by repeat (first | (with_reducible first | exact bw HB.out | refine bset ?_ | apply bA | apply bN | apply bD) | exact HB.out)))); have n1_ := Aside0.mk (blk_below (bs BK335.out) hb); have n2_ := Aside0.mk (below_step (by repeat (first | (with_reducible first | exact bw HB.out | refine bset ?_ | apply bA | apply bN | apply bD) | exact HB.out)) hb); have HO341 := n0_; replace BK335 := n1_; replace HB := n2_; clear n0_ n1_ n2_; (try clear hb); (try clear hb2); (try clear hk); (try clear hi); (try clear ho0)) | ((with_reducible refine gate_callee (f := 8) rfl ?_); refine goesL_ (some 29) rfl rfl Try.func8 (by kernel_rfl) rfl #[.slice A2 l2.length c2] rfl (by (try simp only [mA_]); first | done | rfl | (simp only [List.length_drop, List.length_take]; rfl)) ?_; (with_reducible refine (laws_toIntA2S.calls k _ _ l2 t342 _ ?side1 ?side2 A15.out).mono ?_); (case side1 => first | exact bC HR2.out HB.out | exact Kd.C_below HR2.out HB.out); (case side2 => exact HC2.out); rintro e w26 ⟨v343, rfl, ho0, hb⟩; refine ⟨_, rfl, ?_⟩; have n0_ := Aside0.mk (Kd.S_below (by (with_reducible repeat (first | apply Kd.S_alloc | apply Kd.S_drewN | apply Kd.S_drew)); exact HO341.out) hb); have n1_ := Aside0.mk (Kd.R_lower ho0 (below_size (by repeat (first | (with_reducible first | exact bw HB.out | refine bset ?_ | apply bA | apply bN | apply bD) | exact HB.out)))); have n2_ := Aside0.mk (blk_below (bs BK335.out) hb); have n3_ := Aside0.mk (below_step (by repeat (first | (with_reducible first | exact bw HB.out | refine bset ?_ | apply bA | apply bN | apply bD) | exact HB.out)) hb); replace HO341 := n0_; have HO344 := n1_; replace BK335 := n2_; replace HB := n3_; clear n0_ n1_ n2_ n3_; (try clear hb); (try clear hb2); (try clear hk); (try clear hi); (try clear ho0); obtain ⟨Ao27, co27, eo27⟩ := Kd.S_slice HO341.out; subst eo27; obtain ⟨Ao28, co28, eo28⟩ := Kd.R_slice HO344.out; subst eo28) | ((with_reducible refine gate_callee (f := 6) rfl ?_); refine goesL_ (some 30) rfl rfl Try.func6 (by kernel_rfl) rfl #[.agg #[.int .i64 t338, .slice Ao27 t339.length co27], .int .i64 a1, .slice Ao28 t342.length co28] rfl (by (try simp only [mA_]); first | done | rfl | (simp only [List.length_drop, List.length_take]; rfl)) ?_; (with_reducible refine (spec_IsShopProof.calls k t338 _ _ t339 a1 _ _ t342 t345 t346 _ ?side1 ?side2 ?side3 ?side4 A16.out).mono ?_); (case side1 => repeat (first | exact (Kd.S_reads' HO341.out).2.2 | (with_reducible refine Kd.C_alloc ?_ _) | (with_reducible refine Kd.C_drewN ?_ _) | (with_reducible refine Kd.C_drew ?_))); (case side2 => exact (Kd.S_reads' HO341.out).2.1); (case side3 => repeat (first | exact (Kd.R_reads' HO344.out).2.2 | (with_reducible refine Kd.C_alloc ?_ _) | (with_reducible refine Kd.C_drewN ?_ _) | (with_reducible refine Kd.C_drew ?_))); (case side4 => exact (Kd.R_reads' HO344.out).2.1); rintro e w29 ⟨rfl, hb⟩; refine ⟨_, rfl, ?_⟩; have n0_ := Aside0.mk (Kd.S_below (by (with_reducible repeat (first | apply Kd.S_alloc | apply Kd.S_drewN | apply Kd.S_drew)); exact HO341.out) hb); have n1_ := Aside0.mk (Kd.R_below (bR HO344.out) hb); have n2_ := Aside0.mk (blk_below (bs BK335.out) hb); have n3_ := Aside0.mk (below_step (by repeat (first | (with_reducible first | exact bw HB.out | refine bset ?_ | apply bA | apply bN | apply bD) | exact HB.out)) hb); replace HO341 := n0_; replace HO344 := n1_; replace BK335 := n2_; replace HB := n3_; clear n0_ n1_ n2_ n3_; (try clear hb); (try clear hb2); (try clear hk); (try clear hi); obtain ⟨hcz30_0, hcz30_1, hfz30_0, hfz30_1⟩ := bz2 BK335.out) | ((with_reducible refine gate_callee (f := 7) rfl ?_); refine goesL_ (some 34) rfl rfl Try.func7 (by kernel_rfl) rfl #[.agg #[.int .i64 a0_0, .slice A0_1 l0_1.length c0_1]] rfl (by (try simp only [mA_]); first | done | rfl | (simp only [List.length_drop, List.length_take]; rfl)) ?_; (with_reducible refine (laws_toJobShop.calls k a0_0 _ _ l0_1 t347 t348 _ ?side1 ?side2 A17.out).mono ?_); (case side1 => first | exact bC HR0_1.out HB.out | exact Kd.C_below HR0_1.out HB.out); (case side2 => exact HC0_1.out); rintro e w31 ⟨v349, rfl, ho0, hb⟩; refine ⟨_, rfl, ?_⟩; have n0_ := Aside0.mk (Kd.S_elder' (by (with_reducible repeat (first | apply Kd.S_alloc | apply Kd.S_drewN | apply Kd.S_drew)); exact HO341.out) (Kd.S_base ho0) hb); have n1_ := Aside0.mk (Kd.R_below (bR HO344.out) hb); have n2_ := Aside0.mk (Kd.S_lower (Kd.S_new' ho0 (Kd.S_lt (by (with_reducible repeat (first | apply Kd.S_alloc | apply Kd.S_drewN | apply Kd.S_drew)); exact HO341.out))) (below_size (by repeat (first | (with_reducible first | exact bw HB.out | refine bset ?_ | apply bA | apply bN | apply bD) | exact HB.out)))); have n3_ := Aside0.mk (blk_below (bs BK335.out) hb); have n4_ := Aside0.mk (below_step (by repeat (first | (with_reducible first | exact bw HB.out | refine bset ?_ | apply bA | apply bN | apply bD) | exact HB.out)) hb); replace HO341 := n0_; replace HO344 := n1_; have HO350 := n2_; replace BK335 := n3_; replace HB := n4_; clear n0_ n1_ n2_ n3_ n4_; (try clear hb); (try clear hb2); (try clear hk); (try clear hi); (try clear ho0)) | ((with_reducible refine gate_dst (N := 10) rfl ?_); refine box_event ?hg (N := 10) ?hd (cs := #[.int .i64 0, .slice none 0 0]) (t := 32) ?hr ?_; (case hd => rfl); (case hg => rfl); (case hr => first | (go_simp; done) | (go_simp; rfl)); intro gb351 hg w32 hbox hb; have n0_ := Aside0.mk (Kd.S_below (by (with_reducible repeat (first | apply Kd.S_alloc | apply Kd.S_drewN | apply Kd.S_drew)); exact HO341.out) hb); have n1_ := Aside0.mk (Kd.R_below (bR HO344.out) hb); have n2_ := Aside0.mk (Kd.S_below (by (with_reducible repeat (first | apply Kd.S_alloc | apply Kd.S_drewN | apply Kd.S_drew)); exact HO350.out) hb); have n3_ := Aside0.mk (blk_below (bs BK335.out) hb); have n4_ := Aside0.mk (below_step (by repeat (first | (with_reducible first | exact bw HB.out | refine bset ?_ | apply bA | apply bN | apply bD) | exact HB.out)) hb); have n5_ := Aside0.mk (hbox); have n6_ := Aside0.mk ((by rw [hg]; exact (below_size (by repeat (first | (with_reducible first | exact bw HB.out | refine bset ?_ | apply bA | apply bN | apply bD) | exact HB.out))) : w.heap.size ≤ gb351)); have n7_ := Aside0.mk ((by rw [hg]; exact (below_size (by repeat (first | (with_reducible first | exact bw HB.out | refine bset ?_ | apply bA | apply bN | apply bD) | exact HB.out))) : w.heap.size ≤ gb351)); have n8_ := ne_ hg BK335.out; have n9_ := en_ hg BK335.out; replace HO341 := n0_; replace HO344 := n1_; replace HO350 := n2_; replace BK335 := n3_; replace HB := n4_; have BK351 := n5_; have GW351 := n6_; have GE351 := n7_; have NB335_351 := n8_; have NB351_335 := n9_; clear n0_ n1_ n2_ n3_ n4_ n5_ n6_ n7_ n8_ n9_; clear hb hbox hg; have hnb33 := NB351_335.out; have hnc33 := NB335_351.out; obtain ⟨hcz34_0, hcz34_1, hfz34_0, hfz34_1⟩ := bz2 BK351.out; obtain ⟨Ao35, co35, eo35⟩ := Kd.S_slice HO350.out; subst eo35) | ((with_reducible refine gate_callee (f := 8) rfl ?_); refine goesL_ (some 36) rfl rfl Try.func8 (by kernel_rfl) rfl #[.slice A2 l2.length c2] rfl (by (try simp only [mA_]); first | done | rfl | (simp only [List.length_drop, List.length_take]; rfl)) ?_; (with_reducible refine (laws_toIntA2S.calls k _ _ l2 t352 _ ?side1 ?side2 A18.out).mono ?_); (case side1 => exact Kd.C_below HR2.out (by repeat (first | (with_reducible first | exact bw HB.out | refine bset ?_ | apply bA | apply bN | apply bD) | exact HB.out))); (case side2 => exact HC2.out); rintro e w36 ⟨v353, rfl, ho0, hb⟩; refine ⟨_, rfl, ?_⟩; have n0_ := Aside0.mk (Kd.S_below (by (with_reducible repeat (first | apply Kd.S_alloc | apply Kd.S_drewN | apply Kd.S_drew)); exact (Kd.S_mono (Kd.S_far (p := ⟨gb351, 1, none⟩) (Kd.S_far (p := ⟨gb351, 0, none⟩) (Kd.S_types HO341.out BK351.out (by decide)) (fun _ hk => hk.2) (.int .i64 t347)) (fun _ hk => hk.2) (.slice Ao35 t348.length co35)) (fun _ h_ => h_.1))) hb); have n1_ := Aside0.mk (Kd.R_elder' (by (with_reducible repeat (first | apply Kd.R_alloc | apply Kd.R_drewN | apply Kd.R_drew)); exact (Kd.R_mono (Kd.R_far (p := ⟨gb351, 1, none⟩) (Kd.R_far (p := ⟨gb351, 0, none⟩) (Kd.R_types HO344.out BK351.out (by decide)) (fun _ hk => hk.2) (.int .i64 t347)) (fun _ hk => hk.2) (.slice Ao35 t348.length co35)) (fun _ h_ => h_.1))) (Kd.R_base ho0) hb); have n2_ := Aside0.mk (Kd.S_below (by (with_reducible repeat (first | apply Kd.S_alloc | apply Kd.S_drewN | apply Kd.S_drew)); exact (Kd.S_mono (Kd.S_far (p := ⟨gb351, 1, none⟩) (Kd.S_far (p := ⟨gb351, 0, none⟩) (Kd.S_types HO350.out BK351.out (by decide)) (fun _ hk => hk.2) (.int .i64 t347)) (fun _ hk => hk.2) (.slice Ao35 t348.length co35)) (fun _ h_ => h_.1))) hb); have n3_ := Aside0.mk (Kd.R_lower (Kd.R_new' ho0 (Kd.R_lt (by (with_reducible repeat (first | apply Kd.R_alloc | apply Kd.R_drewN | apply Kd.R_drew)); exact (Kd.R_mono (Kd.R_far (p := ⟨gb351, 1, none⟩) (Kd.R_far (p := ⟨gb351, 0, none⟩) (Kd.R_types HO344.out BK351.out (by decide)) (fun _ hk => hk.2) (.int .i64 t347)) (fun _ hk => hk.2) (.slice Ao35 t348.length co35)) (fun _ h_ => h_.1))))) (below_size (by repeat (first | (with_reducible first | exact bw HB.out | refine bset ?_ | apply bA | apply bN | apply bD) | exact HB.out)))); have n4_ := Aside0.mk (blk_below (g := gb335) (o := .cells #[.int .i64 a0_0, .slice A0_1 l0_1.length c0_1] 24 (0, 0)) (by (with_reducible repeat (first | refine blk_drewN ?_ _ | refine blk_drew ?_ | refine blk_alloc ?_ _)); refine blk_far ?_ NB335_351.out _; (with_reducible repeat (first | refine blk_drewN ?_ _ | refine blk_drew ?_ | refine blk_alloc ?_ _)); refine blk_far ?_ NB335_351.out _; exact bs BK335.out) hb); have n5_ := Aside0.mk (blk_below (g := gb351) (o := .cells #[.int .i64 t347, .slice Ao35 t348.length co35] 32 (0, 0)) (by (with_reducible repeat (first | refine blk_drewN ?_ _ | refine blk_drew ?_ | refine blk_alloc ?_ _)); refine blk_put (cs := #[.int .i64 t347, .slice none 0 0]) ?_ 1 _ rfl; (with_reducible repeat (first | refine blk_drewN ?_ _ | refine blk_drew ?_ | refine blk_alloc ?_ _)); refine blk_put (cs := #[.int .i64 0, .slice none 0 0]) ?_ 0 _ rfl; exact bs BK351.out) hb); have n6_ := Aside0.mk (below_step (by repeat (first | (with_reducible first | exact bw HB.out | refine bset ?_ | apply bA | apply bN | apply bD) | exact HB.out)) hb); replace HO341 := n0_; replace HO344 := n1_; replace HO350 := n2_; have HO354 := n3_; replace BK335 := n4_; replace BK351 := n5_; replace HB := n6_; clear n0_ n1_ n2_ n3_ n4_ n5_ n6_; (try clear hb); (try clear hb2); (try clear hk); (try clear hi); (try clear ho0); obtain ⟨hcz37_0, hcz37_1, hfz37_0, hfz37_1⟩ := bz2 BK351.out; obtain ⟨Ao38, co38, eo38⟩ := Kd.R_slice HO354.out; subst eo38) | ((with_reducible refine gate_callee (f := 9) rfl ?_); refine goesL_ (some 41) rfl rfl Try.func9 (by kernel_rfl) rfl #[.agg #[.int .i64 t347, .slice Ao35 t348.length co35], .int .i64 a1, .slice Ao38 t352.length co38] rfl (by (try simp only [mA_]); first | done | rfl | (simp only [List.length_drop, List.length_take]; rfl)) ?_; (with_reducible refine (impl_IsShopProof.calls k t347 _ _ t348 a1 _ _ t352 t355 t356 _ ?side1 ?side2 ?side3 ?side4 A19.out).mono ?_); (case side1 => repeat (first | exact (Kd.S_reads' HO350.out).2.2 | (with_reducible refine Kd.C_alloc ?_ _) | (with_reducible refine Kd.C_drewN ?_ _) | (with_reducible refine Kd.C_drew ?_))); (case side2 => exact (Kd.S_reads' HO350.out).2.1); (case side3 => repeat (first | exact (Kd.R_reads' HO354.out).2.2 | (with_reducible refine Kd.C_alloc ?_ _) | (with_reducible refine Kd.C_drewN ?_ _) | (with_reducible refine Kd.C_drew ?_))); (case side4 => exact (Kd.R_reads' HO354.out).2.1); rintro e w39 ⟨rfl, hb⟩; refine ⟨_, rfl, ?_⟩; have n0_ := Aside0.mk (Kd.S_below (by (with_reducible repeat (first | apply Kd.S_alloc | apply Kd.S_drewN | apply Kd.S_drew)); exact HO341.out) hb); have n1_ := Aside0.mk (Kd.R_below (bR HO344.out) hb); have n2_ := Aside0.mk (Kd.S_below (by (with_reducible repeat (first | apply Kd.S_alloc | apply Kd.S_drewN | apply Kd.S_drew)); exact HO350.out) hb); have n3_ := Aside0.mk (Kd.R_below (bR HO354.out) hb); have n4_ := Aside0.mk (blk_below (bs BK335.out) hb); have n5_ := Aside0.mk (blk_below (bs BK351.out) hb); have n6_ := Aside0.mk (below_step (by repeat (first | (with_reducible first | exact bw HB.out | refine bset ?_ | apply bA | apply bN | apply bD) | exact HB.out)) hb); replace HO341 := n0_; replace HO344 := n1_; replace HO350 := n2_; replace HO354 := n3_; replace BK335 := n4_; replace BK351 := n5_; replace HB := n6_; clear n0_ n1_ n2_ n3_ n4_ n5_ n6_; (try clear hb); (try clear hb2); (try clear hk); (try clear hi)))
 (try simp only [Act.put, List.setIfInBounds_toArray, List.set_cons_zero, List.set_cons_succ])
 go_cut [51] (fun v51 wc => ∃ (kq : Nat) (x51_19 : Bool), v51 = .bool x51_19 ∧ Aside0 (laws_FnExactIsShopProof.j0 kq l2 t352 x51_19 a0_0 l0_1 t347 t348 = some r) ∧ Aside0 (kq ≤ k) ∧ Aside0 (Kd.R k43 43 wc w.heap.size (fun _ => True) (.slice Ao38 t352.length co38) t352) ∧ Aside0 (Kd.S (Kd.slice 62 k62) 45 wc w.heap.size (fun _ => True) (.slice Ao35 t348.length co35) t348) ∧ Aside0 (wc.heap[gb335]? = some (.cells #[.int .i64 a0_0, (.slice A0_1 l0_1.length c0_1)] 24 (0, 0))) ∧ Aside0 (wc.heap[gb351]? = some (.cells #[.int .i64 t347, (.slice Ao35 t348.length co35)] 32 (0, 0))) ∧ Aside0 (Below w.heap.size w wc))
 case first =>
  have H := HC20.out
  clear HC20
  by_cases c40 : (t355 != t345) = true
  rotate_left
  ·rw [if_neg c40] at H
   have c40b0 : (t355 != t345) = false := by simpa using c40
   (try (have c40b1 : decide (t355 = t345) = true := by simpa using c40))
   (try (have c40b2 : (t355 == t345) = true := by simpa using c40))
   clear c40
   (first | rw [c40b0] | (simp only [i64_w, i32_w]; rw [c40b0]) | skip)
   have H' := Aside0.mk H
   clear H
   go_wp2
   go_meet
   case rel => exact ⟨_, ((t356 != t346)), (by first | rfl | (simp; done) | (simp [*]; done)), H', ⟨by first | omega | exact Nat.le_refl _⟩, ⟨by (with_reducible repeat (first | apply Kd.R_alloc | apply Kd.R_drewN | apply Kd.R_drew)); exact Kd.R_mono HO354.out (fun _ hk => trivial)⟩, ⟨by (with_reducible repeat (first | apply Kd.S_alloc | apply Kd.S_drewN | apply Kd.S_drew)); exact Kd.S_mono HO350.out (fun _ hk => trivial)⟩, ⟨bs BK335.out⟩, ⟨bs BK351.out⟩, ⟨by repeat (first | (with_reducible first | exact bw HB.out | refine bset ?_ | apply bA | apply bN | apply bD) | exact HB.out)⟩⟩
  rw [if_pos c40] at H
  have c40b0 : (t355 != t345) = true := c40
  (try (have c40b1 : decide (t355 = t345) = false := by simpa using c40))
  (try (have c40b2 : (t355 == t345) = false := by simpa using c40))
  (try (have c40b3 : ¬ (t355 = t345) := by simpa using c40))
  clear c40
  (first | rw [c40b0] | (simp only [i64_w, i32_w]; rw [c40b0]) | skip)
  have H' := Aside0.mk H
  clear H
  go_wp2
  go_meet
  case rel => exact ⟨_, (true), (by first | rfl | (simp; done) | (simp [*]; done)), H', ⟨by first | omega | exact Nat.le_refl _⟩, ⟨by (with_reducible repeat (first | apply Kd.R_alloc | apply Kd.R_drewN | apply Kd.R_drew)); exact Kd.R_mono HO354.out (fun _ hk => trivial)⟩, ⟨by (with_reducible repeat (first | apply Kd.S_alloc | apply Kd.S_drewN | apply Kd.S_drew)); exact Kd.S_mono HO350.out (fun _ hk => trivial)⟩, ⟨bs BK335.out⟩, ⟨bs BK351.out⟩, ⟨by repeat (first | (with_reducible first | exact bw HB.out | refine bset ?_ | apply bA | apply bN | apply bD) | exact HB.out)⟩⟩
 case rest =>
  clear HC20
  try clear c1
  try clear c2
  try clear p2
  try clear c3
  try clear c4
  try clear c5
  try clear c5b0
  try clear c6
  try clear c7
  try clear c8
  try clear c9
  try clear c10
  try clear c10b0
  try clear c33
  try clear c40
  try clear c40b0
  try clear c40b1
  try clear c40b2
  try clear hcz12_0
  try clear hcz12_1
  try clear hcz22_0
  try clear hcz22_1
  try clear hcz24_0
  try clear hcz24_1
  try clear hcz30_0
  try clear hcz30_1
  try clear hcz34_0
  try clear hcz34_1
  try clear hcz37_0
  try clear hcz37_1
  try clear hcz7_0
  try clear hcz7_1
  try clear hfz12_0
  try clear hfz12_1
  try clear hfz22_0
  try clear hfz22_1
  try clear hfz24_0
  try clear hfz24_1
  try clear hfz30_0
  try clear hfz30_1
  try clear hfz34_0
  try clear hfz34_1
  try clear hfz37_0
  try clear hfz37_1
  try clear hfz7_0
  try clear hfz7_1
  obtain ⟨kq, x51_19, rfl, HA, HJ19, HO_11, HO_352001, BK335, BK351, HB⟩ := hcut
  cases kq with
  | zero => exact absurd HA.out (by simp [laws_FnExactIsShopProof.j0])
  | succ kj19 =>
   have H := HA.out
   clear HA
   simp only [laws_FnExactIsShopProof.j0] at H
   by_cases c41 : x51_19 = true
   ·subst c41
    have H1 : (some false) = some r := by rw [if_pos rfl] at H; exact H
    clear H
    have H := H1
    clear H1
    obtain rfl := Option.some.inj H
    go_wp2
    go_ret
    exact ⟨by first | rfl | (simp [errW_none, errW_some] <;> rfl) | (simp [*, errW_none, errW_some] <;> rfl), by repeat (first | (with_reducible first | exact bw HB.out | refine bset ?_ | apply bA | apply bN | apply bD) | exact HB.out)⟩
   replace c41 := Bool.eq_false_iff.mpr c41
   subst c41
   have H1 : ((laws_toJobShop.f kj19 a0_0 l0_1).bind fun bt357 => ((laws_eqJobShop.f kj19 t347 t348 bt357.1 bt357.2).bind fun t361 => (if t361 = true then ((laws_toIntA2S.f kj19 l2).bind fun t362 => ((laws_eqIntA2S.f kj19 t352 t362).bind fun t365 => (if t365 = true then (some true) else (some false)))) else (some false)))) = some r := by rw [if_neg (show ¬ (false = true) by decide)] at H; exact H
   clear H
   have H := H1
   clear H1
   replace H := Option.bind_eq_some_iff.mp H
   obtain ⟨⟨t357, t358⟩, A420, H⟩ := H
   replace H : ((laws_eqJobShop.f kj19 t347 t348 t357 t358).bind fun t361 => (if t361 = true then ((laws_toIntA2S.f kj19 l2).bind fun t362 => ((laws_eqIntA2S.f kj19 t352 t362).bind fun t365 => (if t365 = true then (some true) else (some false)))) else (some false))) = some r := H
   have A42 := Aside0.mk A420
   clear A420
   replace H := Option.bind_eq_some_iff.mp H
   obtain ⟨t361, A430, H⟩ := H
   replace H : (if t361 = true then ((laws_toIntA2S.f kj19 l2).bind fun t362 => ((laws_eqIntA2S.f kj19 t352 t362).bind fun t365 => (if t365 = true then (some true) else (some false)))) else (some false)) = some r := H
   have A43 := Aside0.mk A430
   clear A430
   by_cases c44 : t361 = true
   rotate_left
   ·replace c44 := Bool.eq_false_iff.mpr c44
    subst c44
    have H1 : (some false) = some r := by rw [if_neg (show ¬ (false = true) by decide)] at H; exact H
    clear H
    have H := H1
    clear H1
    obtain rfl := Option.some.inj H
    try go_wp2
    have n0_ := Aside0.mk (Kd.R_drew HO_11.out)
    have n1_ := Aside0.mk (Kd.S_drew HO_352001.out)
    have n2_ := Aside0.mk (blk_drew BK335.out)
    have n3_ := Aside0.mk (blk_drew BK351.out)
    have n4_ := Aside0.mk (below_drew1 HB.out)
    replace HO_11 := n0_
    replace HO_352001 := n1_
    replace BK335 := n2_
    replace BK351 := n3_
    replace HB := n4_
    clear n0_ n1_ n2_ n3_ n4_
    refine start_ (n := 5) (S := fun w' => w'.cell? ⟨gb351, 0, none⟩ = some (.int .i64 t347) ∧ w'.cell? ⟨gb351, 1, none⟩ = some (.slice Ao35 t348.length co35) ∧ w'.cell? ⟨gb335, 0, none⟩ = some (.int .i64 a0_0) ∧ w'.cell? ⟨gb335, 1, none⟩ = some (.slice A0_1 l0_1.length c0_1)) (ds := []) #[false, false, false, false, false] (by kernel_rfl) rfl rfl ⟨(blk_cell BK351.out 0).trans rfl, (blk_cell BK351.out 1).trans rfl, (blk_cell BK335.out 0).trans rfl, (blk_cell BK335.out 1).trans rfl⟩ (fun hHeld => ?_)
    generalize wc.drew = w62 at HO_11 HO_352001 BK335 BK351 HB hHeld ⊢
    refine take_ (i := 0) (N := some 52) (v := ?_) (a' := ?_) #[true, false, false, false, false] rfl rfl (by kernel_rfl) (fun _ _ _ h => h) (Or.inl ⟨by rfl, ?_⟩) hHeld ?_ ?_
    rotate_left
    ·rintro w' ⟨s0, s1, s2, s3⟩
     go_simp
     with_reducible rfl
    rotate_left
    ·simp only [aq_]
     rfl
    refine take_ (i := 1) (N := some 53) (v := ?_) (a' := ?_) #[true, true, false, false, false] rfl rfl (by kernel_rfl) (fun _ _ _ h => h) (Or.inl ⟨by rfl, ?_⟩) hHeld ?_ ?_
    rotate_left
    ·rintro w' ⟨s0, s1, s2, s3⟩
     go_simp
     with_reducible rfl
    rotate_left
    ·simp only [aq_]
     rfl
    refine one_ (i := 2) (N := some 54) #[true, true, true, false, false] rfl rfl (by kernel_rfl) (by decide) (fun K hK => ?_)
    refine goes_ Try.func7 (by kernel_rfl) rfl #[.agg #[.int .i64 a0_0, .slice A0_1 l0_1.length c0_1]] (by rfl) rfl rfl (by (try simp only [mA_]); first | done | rfl | (simp only [List.length_drop, List.length_take]; rfl)) ?_
    with_reducible refine (laws_toJobShop.calls kj19 a0_0 _ _ l0_1 t357 t358 _ ?side1 ?side2 A42.out).mono ?_
    (case side1 => first | exact bC HR0_1.out HB.out | exact Kd.C_below HR0_1.out HB.out)
    (case side2 => exact HC0_1.out)
    rintro e w63 ⟨v359, rfl, ho0, hb⟩
    refine ⟨_, rfl, ?_⟩
    have n0_ := Aside0.mk (Kd.R_below (bR HO_11.out) hb)
    have n1_ := Aside0.mk (Kd.S_elder' (by (with_reducible repeat (first | apply Kd.S_alloc | apply Kd.S_drewN | apply Kd.S_drew)); exact HO_352001.out) (Kd.S_base ho0) hb)
    have n2_ := Aside0.mk (Kd.S_lower (Kd.S_new' ho0 (Kd.S_lt (by (with_reducible repeat (first | apply Kd.S_alloc | apply Kd.S_drewN | apply Kd.S_drew)); exact HO_352001.out))) (below_size (by repeat (first | (with_reducible first | exact bw HB.out | refine bset ?_ | apply bA | apply bN | apply bD) | exact HB.out))))
    have n3_ := Aside0.mk (blk_below (bs BK335.out) hb)
    have n4_ := Aside0.mk (blk_below (bs BK351.out) hb)
    have n5_ := Aside0.mk (below_step (by repeat (first | (with_reducible first | exact bw HB.out | refine bset ?_ | apply bA | apply bN | apply bD) | exact HB.out)) hb)
    replace HO_11 := n0_
    replace HO_352001 := n1_
    have HO360 := n2_
    replace BK335 := n3_
    replace BK351 := n4_
    replace HB := n5_
    clear n0_ n1_ n2_ n3_ n4_ n5_
    (try clear hb)
    (try clear hb2)
    (try clear hk)
    (try clear hi)
    (try clear ho0)
    obtain ⟨Ao64, co64, eo64⟩ := Kd.S_slice HO360.out
    (first | subst eo64 | (injection eo64 with f1_ f2_ f3_; have f4_ := f1_.symm; have f5_ := f3_.symm; clear f1_ f2_ f3_; subst f4_; subst f5_))
    refine hK.out _ _ ⟨(blk_cell BK351.out 0).trans rfl, (blk_cell BK351.out 1).trans rfl, (blk_cell BK335.out 0).trans rfl, (blk_cell BK335.out 1).trans rfl⟩ (fun hHeld => ?_)
    clear hK K
    refine norm_ (a' := ?_) ?_ ?_
    rotate_left
    ·show Act.put _ (some 54) _ = _
     simp only [aq_]
     rfl
    refine one_ (i := 3) (N := some 55) #[true, true, true, true, false] rfl rfl (by kernel_rfl) (by decide) (fun K hK => ?_)
    refine goes_ Try.func10 (by kernel_rfl) rfl #[.agg #[.int .i64 t347, .slice Ao35 t348.length co35], .agg #[.int .i64 t357, .slice Ao64 t358.length co64]] (by rfl) rfl rfl (by (try simp only [mA_]); first | done | rfl | (simp only [List.length_drop, List.length_take]; rfl)) ?_
    with_reducible refine (laws_eqJobShop.calls kj19 t347 _ _ t348 t357 _ _ t358 false _ ?side1 ?side2 ?side3 ?side4 A43.out).mono ?_
    (case side1 => repeat (first | exact (Kd.S_reads' HO_352001.out).2.2 | (with_reducible refine Kd.C_alloc ?_ _) | (with_reducible refine Kd.C_drewN ?_ _) | (with_reducible refine Kd.C_drew ?_)))
    (case side2 => exact (Kd.S_reads' HO_352001.out).2.1)
    (case side3 => repeat (first | exact (Kd.S_reads' HO360.out).2.2 | (with_reducible refine Kd.C_alloc ?_ _) | (with_reducible refine Kd.C_drewN ?_ _) | (with_reducible refine Kd.C_drew ?_)))
    (case side4 => exact (Kd.S_reads' HO360.out).2.1)
    rintro e w65 ⟨rfl, hb⟩
    refine ⟨_, rfl, ?_⟩
    have n0_ := Aside0.mk (Kd.R_below (bR HO_11.out) hb)
    have n1_ := Aside0.mk (Kd.S_below (by (with_reducible repeat (first | apply Kd.S_alloc | apply Kd.S_drewN | apply Kd.S_drew)); exact HO_352001.out) hb)
    have n2_ := Aside0.mk (Kd.S_below (by (with_reducible repeat (first | apply Kd.S_alloc | apply Kd.S_drewN | apply Kd.S_drew)); exact HO360.out) hb)
    have n3_ := Aside0.mk (blk_below (bs BK335.out) hb)
    have n4_ := Aside0.mk (blk_below (bs BK351.out) hb)
    have n5_ := Aside0.mk (below_step (by repeat (first | (with_reducible first | exact bw HB.out | refine bset ?_ | apply bA | apply bN | apply bD) | exact HB.out)) hb)
    replace HO_11 := n0_
    replace HO_352001 := n1_
    replace HO360 := n2_
    replace BK335 := n3_
    replace BK351 := n4_
    replace HB := n5_
    clear n0_ n1_ n2_ n3_ n4_ n5_
    (try clear hb)
    (try clear hb2)
    (try clear hk)
    (try clear hi)
    refine hK.out _ _ ⟨(blk_cell BK351.out 0).trans rfl, (blk_cell BK351.out 1).trans rfl, (blk_cell BK335.out 0).trans rfl, (blk_cell BK335.out 1).trans rfl⟩ (fun hHeld => ?_)
    clear hK K
    refine norm_ (a' := ?_) ?_ ?_
    rotate_left
    ·show Act.put _ (some 55) _ = _
     simp only [aq_]
     rfl
    refine puq_ (i := 4) (N := some 56) rfl rfl (by kernel_rfl) (fun _ _ _ h => h) (Or.inl ⟨by rfl, by intro w'; go_simp; with_reducible rfl⟩) (by simp only [aq_]; rfl) ?_
    refine done_ (by kernel_rfl) ?_
    try go_wp2
    go_ret
    exact ⟨by first | rfl | (simp [errW_none, errW_some] <;> rfl) | (simp [*, errW_none, errW_some] <;> rfl), by repeat (first | (with_reducible first | exact bw HB.out | refine bset ?_ | apply bA | apply bN | apply bD) | exact HB.out)⟩
   subst c44
   have H1 : ((laws_toIntA2S.f kj19 l2).bind fun t362 => ((laws_eqIntA2S.f kj19 t352 t362).bind fun t365 => (if t365 = true then (some true) else (some false)))) = some r := by rw [if_pos rfl] at H; exact H
   clear H
   have H := H1
   clear H1
   replace H := Option.bind_eq_some_iff.mp H
   obtain ⟨t362, A450, H⟩ := H
   replace H : ((laws_eqIntA2S.f kj19 t352 t362).bind fun t365 => (if t365 = true then (some true) else (some false))) = some r := H
   have A45 := Aside0.mk A450
   clear A450
   replace H := Option.bind_eq_some_iff.mp H
   obtain ⟨t365, A460, H⟩ := H
   replace H : (if t365 = true then (some true) else (some false)) = some r := H
   have A46 := Aside0.mk A460
   clear A460
   by_cases c47 : t365 = true
   ·subst c47
    have H1 : (some true) = some r := by rw [if_pos rfl] at H; exact H
    clear H
    have H := H1
    clear H1
    obtain rfl := Option.some.inj H
    try go_wp2
    have n0_ := Aside0.mk (Kd.R_drew HO_11.out)
    have n1_ := Aside0.mk (Kd.S_drew HO_352001.out)
    have n2_ := Aside0.mk (blk_drew BK335.out)
    have n3_ := Aside0.mk (blk_drew BK351.out)
    have n4_ := Aside0.mk (below_drew1 HB.out)
    replace HO_11 := n0_
    replace HO_352001 := n1_
    replace BK335 := n2_
    replace BK351 := n3_
    replace HB := n4_
    clear n0_ n1_ n2_ n3_ n4_
    refine start_ (n := 5) (S := fun w' => w'.cell? ⟨gb351, 0, none⟩ = some (.int .i64 t347) ∧ w'.cell? ⟨gb351, 1, none⟩ = some (.slice Ao35 t348.length co35) ∧ w'.cell? ⟨gb335, 0, none⟩ = some (.int .i64 a0_0) ∧ w'.cell? ⟨gb335, 1, none⟩ = some (.slice A0_1 l0_1.length c0_1)) (ds := []) #[false, false, false, false, false] (by kernel_rfl) rfl rfl ⟨(blk_cell BK351.out 0).trans rfl, (blk_cell BK351.out 1).trans rfl, (blk_cell BK335.out 0).trans rfl, (blk_cell BK335.out 1).trans rfl⟩ (fun hHeld => ?_)
    generalize wc.drew = w48 at HO_11 HO_352001 BK335 BK351 HB hHeld ⊢
    refine take_ (i := 0) (N := some 52) (v := ?_) (a' := ?_) #[true, false, false, false, false] rfl rfl (by kernel_rfl) (fun _ _ _ h => h) (Or.inl ⟨by rfl, ?_⟩) hHeld ?_ ?_
    rotate_left
    ·rintro w' ⟨s0, s1, s2, s3⟩
     go_simp
     with_reducible rfl
    rotate_left
    ·simp only [aq_]
     rfl
    refine take_ (i := 1) (N := some 53) (v := ?_) (a' := ?_) #[true, true, false, false, false] rfl rfl (by kernel_rfl) (fun _ _ _ h => h) (Or.inl ⟨by rfl, ?_⟩) hHeld ?_ ?_
    rotate_left
    ·rintro w' ⟨s0, s1, s2, s3⟩
     go_simp
     with_reducible rfl
    rotate_left
    ·simp only [aq_]
     rfl
    refine one_ (i := 2) (N := some 54) #[true, true, true, false, false] rfl rfl (by kernel_rfl) (by decide) (fun K hK => ?_)
    refine goes_ Try.func7 (by kernel_rfl) rfl #[.agg #[.int .i64 a0_0, .slice A0_1 l0_1.length c0_1]] (by rfl) rfl rfl (by (try simp only [mA_]); first | done | rfl | (simp only [List.length_drop, List.length_take]; rfl)) ?_
    with_reducible refine (laws_toJobShop.calls kj19 a0_0 _ _ l0_1 t357 t358 _ ?side1 ?side2 A42.out).mono ?_
    (case side1 => first | exact bC HR0_1.out HB.out | exact Kd.C_below HR0_1.out HB.out)
    (case side2 => exact HC0_1.out)
    rintro e w49 ⟨v359, rfl, ho0, hb⟩
    refine ⟨_, rfl, ?_⟩
    have n0_ := Aside0.mk (Kd.R_below (bR HO_11.out) hb)
    have n1_ := Aside0.mk (Kd.S_elder' (by (with_reducible repeat (first | apply Kd.S_alloc | apply Kd.S_drewN | apply Kd.S_drew)); exact HO_352001.out) (Kd.S_base ho0) hb)
    have n2_ := Aside0.mk (Kd.S_lower (Kd.S_new' ho0 (Kd.S_lt (by (with_reducible repeat (first | apply Kd.S_alloc | apply Kd.S_drewN | apply Kd.S_drew)); exact HO_352001.out))) (below_size (by repeat (first | (with_reducible first | exact bw HB.out | refine bset ?_ | apply bA | apply bN | apply bD) | exact HB.out))))
    have n3_ := Aside0.mk (blk_below (bs BK335.out) hb)
    have n4_ := Aside0.mk (blk_below (bs BK351.out) hb)
    have n5_ := Aside0.mk (below_step (by repeat (first | (with_reducible first | exact bw HB.out | refine bset ?_ | apply bA | apply bN | apply bD) | exact HB.out)) hb)
    replace HO_11 := n0_
    replace HO_352001 := n1_
    have HO360 := n2_
    replace BK335 := n3_
    replace BK351 := n4_
    replace HB := n5_
    clear n0_ n1_ n2_ n3_ n4_ n5_
    (try clear hb)
    (try clear hb2)
    (try clear hk)
    (try clear hi)
    (try clear ho0)
    obtain ⟨Ao50, co50, eo50⟩ := Kd.S_slice HO360.out
    (first | subst eo50 | (injection eo50 with f1_ f2_ f3_; have f4_ := f1_.symm; have f5_ := f3_.symm; clear f1_ f2_ f3_; subst f4_; subst f5_))
    refine hK.out _ _ ⟨(blk_cell BK351.out 0).trans rfl, (blk_cell BK351.out 1).trans rfl, (blk_cell BK335.out 0).trans rfl, (blk_cell BK335.out 1).trans rfl⟩ (fun hHeld => ?_)
    clear hK K
    refine norm_ (a' := ?_) ?_ ?_
    rotate_left
    ·show Act.put _ (some 54) _ = _
     simp only [aq_]
     rfl
    refine one_ (i := 3) (N := some 55) #[true, true, true, true, false] rfl rfl (by kernel_rfl) (by decide) (fun K hK => ?_)
    refine goes_ Try.func10 (by kernel_rfl) rfl #[.agg #[.int .i64 t347, .slice Ao35 t348.length co35], .agg #[.int .i64 t357, .slice Ao50 t358.length co50]] (by rfl) rfl rfl (by (try simp only [mA_]); first | done | rfl | (simp only [List.length_drop, List.length_take]; rfl)) ?_
    with_reducible refine (laws_eqJobShop.calls kj19 t347 _ _ t348 t357 _ _ t358 true _ ?side1 ?side2 ?side3 ?side4 A43.out).mono ?_
    (case side1 => repeat (first | exact (Kd.S_reads' HO_352001.out).2.2 | (with_reducible refine Kd.C_alloc ?_ _) | (with_reducible refine Kd.C_drewN ?_ _) | (with_reducible refine Kd.C_drew ?_)))
    (case side2 => exact (Kd.S_reads' HO_352001.out).2.1)
    (case side3 => repeat (first | exact (Kd.S_reads' HO360.out).2.2 | (with_reducible refine Kd.C_alloc ?_ _) | (with_reducible refine Kd.C_drewN ?_ _) | (with_reducible refine Kd.C_drew ?_)))
    (case side4 => exact (Kd.S_reads' HO360.out).2.1)
    rintro e w51 ⟨rfl, hb⟩
    refine ⟨_, rfl, ?_⟩
    have n0_ := Aside0.mk (Kd.R_below (bR HO_11.out) hb)
    have n1_ := Aside0.mk (Kd.S_below (by (with_reducible repeat (first | apply Kd.S_alloc | apply Kd.S_drewN | apply Kd.S_drew)); exact HO_352001.out) hb)
    have n2_ := Aside0.mk (Kd.S_below (by (with_reducible repeat (first | apply Kd.S_alloc | apply Kd.S_drewN | apply Kd.S_drew)); exact HO360.out) hb)
    have n3_ := Aside0.mk (blk_below (bs BK335.out) hb)
    have n4_ := Aside0.mk (blk_below (bs BK351.out) hb)
    have n5_ := Aside0.mk (below_step (by repeat (first | (with_reducible first | exact bw HB.out | refine bset ?_ | apply bA | apply bN | apply bD) | exact HB.out)) hb)
    replace HO_11 := n0_
    replace HO_352001 := n1_
    replace HO360 := n2_
    replace BK335 := n3_
    replace BK351 := n4_
    replace HB := n5_
    clear n0_ n1_ n2_ n3_ n4_ n5_
    (try clear hb)
    (try clear hb2)
    (try clear hk)
    (try clear hi)
    refine hK.out _ _ ⟨(blk_cell BK351.out 0).trans rfl, (blk_cell BK351.out 1).trans rfl, (blk_cell BK335.out 0).trans rfl, (blk_cell BK335.out 1).trans rfl⟩ (fun hHeld => ?_)
    clear hK K
    refine norm_ (a' := ?_) ?_ ?_
    rotate_left
    ·show Act.put _ (some 55) _ = _
     simp only [aq_]
     rfl
    refine puq_ (i := 4) (N := some 56) rfl rfl (by kernel_rfl) (fun _ _ _ h => h) (Or.inl ⟨by rfl, by intro w'; go_simp; with_reducible rfl⟩) (by simp only [aq_]; rfl) ?_
    refine done_ (by kernel_rfl) ?_
    try go_wp2_with (first | ((with_reducible refine gate_callee (f := 8) rfl ?_); refine goesL_ (some 59) rfl rfl Try.func8 (by kernel_rfl) rfl #[.slice A2 l2.length c2] rfl (by (try simp only [mA_]); first | done | rfl | (simp only [List.length_drop, List.length_take]; rfl)) ?_; (with_reducible refine (laws_toIntA2S.calls kj19 _ _ l2 t362 _ ?side1 ?side2 A45.out).mono ?_); (case side1 => first | exact bC HR2.out HB.out | exact Kd.C_below HR2.out HB.out); (case side2 => exact HC2.out); rintro e w52 ⟨v363, rfl, ho0, hb⟩; refine ⟨_, rfl, ?_⟩; have n0_ := Aside0.mk (Kd.R_elder' (bR HO_11.out) (Kd.R_base ho0) hb); have n1_ := Aside0.mk (Kd.S_below (by (with_reducible repeat (first | apply Kd.S_alloc | apply Kd.S_drewN | apply Kd.S_drew)); exact HO_352001.out) hb); have n2_ := Aside0.mk (Kd.S_below (by (with_reducible repeat (first | apply Kd.S_alloc | apply Kd.S_drewN | apply Kd.S_drew)); exact HO360.out) hb); have n3_ := Aside0.mk (Kd.R_lower (Kd.R_new' ho0 (Kd.R_lt (bR HO_11.out))) (below_size (by repeat (first | (with_reducible first | exact bw HB.out | refine bset ?_ | apply bA | apply bN | apply bD) | exact HB.out)))); have n4_ := Aside0.mk (blk_below (bs BK335.out) hb); have n5_ := Aside0.mk (blk_below (bs BK351.out) hb); have n6_ := Aside0.mk (below_step (by repeat (first | (with_reducible first | exact bw HB.out | refine bset ?_ | apply bA | apply bN | apply bD) | exact HB.out)) hb); replace HO_11 := n0_; replace HO_352001 := n1_; replace HO360 := n2_; have HO364 := n3_; replace BK335 := n4_; replace BK351 := n5_; replace HB := n6_; clear n0_ n1_ n2_ n3_ n4_ n5_ n6_; (try clear hb); (try clear hb2); (try clear hk); (try clear hi); (try clear ho0); obtain ⟨Ao53, co53, eo53⟩ := Kd.R_slice HO364.out; subst eo53) | ((with_reducible refine gate_callee (f := 11) rfl ?_); refine goesL_ (some 60) rfl rfl Try.func11 (by kernel_rfl) rfl #[.slice Ao38 t352.length co38, .slice Ao53 t362.length co53] rfl (by (try simp only [mA_]); first | done | rfl | (simp only [List.length_drop, List.length_take]; rfl)) ?_; (with_reducible refine (laws_eqIntA2S.calls kj19 _ _ t352 _ _ t362 true _ ?side1 ?side2 ?side3 ?side4 A46.out).mono ?_); (case side1 => repeat (first | exact (Kd.R_reads' HO_11.out).2.2 | (with_reducible refine Kd.C_alloc ?_ _) | (with_reducible refine Kd.C_drewN ?_ _) | (with_reducible refine Kd.C_drew ?_))); (case side2 => exact (Kd.R_reads' HO_11.out).2.1); (case side3 => repeat (first | exact (Kd.R_reads' HO364.out).2.2 | (with_reducible refine Kd.C_alloc ?_ _) | (with_reducible refine Kd.C_drewN ?_ _) | (with_reducible refine Kd.C_drew ?_))); (case side4 => exact (Kd.R_reads' HO364.out).2.1); rintro e w54 ⟨rfl, hb⟩; refine ⟨_, rfl, ?_⟩; have n0_ := Aside0.mk (Kd.R_below (bR HO_11.out) hb); have n1_ := Aside0.mk (Kd.S_below (by (with_reducible repeat (first | apply Kd.S_alloc | apply Kd.S_drewN | apply Kd.S_drew)); exact HO_352001.out) hb); have n2_ := Aside0.mk (Kd.S_below (by (with_reducible repeat (first | apply Kd.S_alloc | apply Kd.S_drewN | apply Kd.S_drew)); exact HO360.out) hb); have n3_ := Aside0.mk (Kd.R_below (bR HO364.out) hb); have n4_ := Aside0.mk (blk_below (bs BK335.out) hb); have n5_ := Aside0.mk (blk_below (bs BK351.out) hb); have n6_ := Aside0.mk (below_step (by repeat (first | (with_reducible first | exact bw HB.out | refine bset ?_ | apply bA | apply bN | apply bD) | exact HB.out)) hb); replace HO_11 := n0_; replace HO_352001 := n1_; replace HO360 := n2_; replace HO364 := n3_; replace BK335 := n4_; replace BK351 := n5_; replace HB := n6_; clear n0_ n1_ n2_ n3_ n4_ n5_ n6_; (try clear hb); (try clear hb2); (try clear hk); (try clear hi)))
    go_ret
    exact ⟨by first | rfl | (simp [errW_none, errW_some] <;> rfl) | (simp [*, errW_none, errW_some] <;> rfl), by repeat (first | (with_reducible first | exact bw HB.out | refine bset ?_ | apply bA | apply bN | apply bD) | exact HB.out)⟩
   replace c47 := Bool.eq_false_iff.mpr c47
   subst c47
   have H1 : (some false) = some r := by rw [if_neg (show ¬ (false = true) by decide)] at H; exact H
   clear H
   have H := H1
   clear H1
   obtain rfl := Option.some.inj H
   try go_wp2
   have n0_ := Aside0.mk (Kd.R_drew HO_11.out)
   have n1_ := Aside0.mk (Kd.S_drew HO_352001.out)
   have n2_ := Aside0.mk (blk_drew BK335.out)
   have n3_ := Aside0.mk (blk_drew BK351.out)
   have n4_ := Aside0.mk (below_drew1 HB.out)
   replace HO_11 := n0_
   replace HO_352001 := n1_
   replace BK335 := n2_
   replace BK351 := n3_
   replace HB := n4_
   clear n0_ n1_ n2_ n3_ n4_
   refine start_ (n := 5) (S := fun w' => w'.cell? ⟨gb351, 0, none⟩ = some (.int .i64 t347) ∧ w'.cell? ⟨gb351, 1, none⟩ = some (.slice Ao35 t348.length co35) ∧ w'.cell? ⟨gb335, 0, none⟩ = some (.int .i64 a0_0) ∧ w'.cell? ⟨gb335, 1, none⟩ = some (.slice A0_1 l0_1.length c0_1)) (ds := []) #[false, false, false, false, false] (by kernel_rfl) rfl rfl ⟨(blk_cell BK351.out 0).trans rfl, (blk_cell BK351.out 1).trans rfl, (blk_cell BK335.out 0).trans rfl, (blk_cell BK335.out 1).trans rfl⟩ (fun hHeld => ?_)
   generalize wc.drew = w55 at HO_11 HO_352001 BK335 BK351 HB hHeld ⊢
   refine take_ (i := 0) (N := some 52) (v := ?_) (a' := ?_) #[true, false, false, false, false] rfl rfl (by kernel_rfl) (fun _ _ _ h => h) (Or.inl ⟨by rfl, ?_⟩) hHeld ?_ ?_
   rotate_left
   ·rintro w' ⟨s0, s1, s2, s3⟩
    go_simp
    with_reducible rfl
   rotate_left
   ·simp only [aq_]
    rfl
   refine take_ (i := 1) (N := some 53) (v := ?_) (a' := ?_) #[true, true, false, false, false] rfl rfl (by kernel_rfl) (fun _ _ _ h => h) (Or.inl ⟨by rfl, ?_⟩) hHeld ?_ ?_
   rotate_left
   ·rintro w' ⟨s0, s1, s2, s3⟩
    go_simp
    with_reducible rfl
   rotate_left
   ·simp only [aq_]
    rfl
   refine one_ (i := 2) (N := some 54) #[true, true, true, false, false] rfl rfl (by kernel_rfl) (by decide) (fun K hK => ?_)
   refine goes_ Try.func7 (by kernel_rfl) rfl #[.agg #[.int .i64 a0_0, .slice A0_1 l0_1.length c0_1]] (by rfl) rfl rfl (by (try simp only [mA_]); first | done | rfl | (simp only [List.length_drop, List.length_take]; rfl)) ?_
   with_reducible refine (laws_toJobShop.calls kj19 a0_0 _ _ l0_1 t357 t358 _ ?side1 ?side2 A42.out).mono ?_
   (case side1 => first | exact bC HR0_1.out HB.out | exact Kd.C_below HR0_1.out HB.out)
   (case side2 => exact HC0_1.out)
   rintro e w56 ⟨v359, rfl, ho0, hb⟩
   refine ⟨_, rfl, ?_⟩
   have n0_ := Aside0.mk (Kd.R_below (bR HO_11.out) hb)
   have n1_ := Aside0.mk (Kd.S_elder' (by (with_reducible repeat (first | apply Kd.S_alloc | apply Kd.S_drewN | apply Kd.S_drew)); exact HO_352001.out) (Kd.S_base ho0) hb)
   have n2_ := Aside0.mk (Kd.S_lower (Kd.S_new' ho0 (Kd.S_lt (by (with_reducible repeat (first | apply Kd.S_alloc | apply Kd.S_drewN | apply Kd.S_drew)); exact HO_352001.out))) (below_size (by repeat (first | (with_reducible first | exact bw HB.out | refine bset ?_ | apply bA | apply bN | apply bD) | exact HB.out))))
   have n3_ := Aside0.mk (blk_below (bs BK335.out) hb)
   have n4_ := Aside0.mk (blk_below (bs BK351.out) hb)
   have n5_ := Aside0.mk (below_step (by repeat (first | (with_reducible first | exact bw HB.out | refine bset ?_ | apply bA | apply bN | apply bD) | exact HB.out)) hb)
   replace HO_11 := n0_
   replace HO_352001 := n1_
   have HO360 := n2_
   replace BK335 := n3_
   replace BK351 := n4_
   replace HB := n5_
   clear n0_ n1_ n2_ n3_ n4_ n5_
   (try clear hb)
   (try clear hb2)
   (try clear hk)
   (try clear hi)
   (try clear ho0)
   obtain ⟨Ao57, co57, eo57⟩ := Kd.S_slice HO360.out
   (first | subst eo57 | (injection eo57 with f1_ f2_ f3_; have f4_ := f1_.symm; have f5_ := f3_.symm; clear f1_ f2_ f3_; subst f4_; subst f5_))
   refine hK.out _ _ ⟨(blk_cell BK351.out 0).trans rfl, (blk_cell BK351.out 1).trans rfl, (blk_cell BK335.out 0).trans rfl, (blk_cell BK335.out 1).trans rfl⟩ (fun hHeld => ?_)
   clear hK K
   refine norm_ (a' := ?_) ?_ ?_
   rotate_left
   ·show Act.put _ (some 54) _ = _
    simp only [aq_]
    rfl
   refine one_ (i := 3) (N := some 55) #[true, true, true, true, false] rfl rfl (by kernel_rfl) (by decide) (fun K hK => ?_)
   refine goes_ Try.func10 (by kernel_rfl) rfl #[.agg #[.int .i64 t347, .slice Ao35 t348.length co35], .agg #[.int .i64 t357, .slice Ao57 t358.length co57]] (by rfl) rfl rfl (by (try simp only [mA_]); first | done | rfl | (simp only [List.length_drop, List.length_take]; rfl)) ?_
   with_reducible refine (laws_eqJobShop.calls kj19 t347 _ _ t348 t357 _ _ t358 true _ ?side1 ?side2 ?side3 ?side4 A43.out).mono ?_
   (case side1 => repeat (first | exact (Kd.S_reads' HO_352001.out).2.2 | (with_reducible refine Kd.C_alloc ?_ _) | (with_reducible refine Kd.C_drewN ?_ _) | (with_reducible refine Kd.C_drew ?_)))
   (case side2 => exact (Kd.S_reads' HO_352001.out).2.1)
   (case side3 => repeat (first | exact (Kd.S_reads' HO360.out).2.2 | (with_reducible refine Kd.C_alloc ?_ _) | (with_reducible refine Kd.C_drewN ?_ _) | (with_reducible refine Kd.C_drew ?_)))
   (case side4 => exact (Kd.S_reads' HO360.out).2.1)
   rintro e w58 ⟨rfl, hb⟩
   refine ⟨_, rfl, ?_⟩
   have n0_ := Aside0.mk (Kd.R_below (bR HO_11.out) hb)
   have n1_ := Aside0.mk (Kd.S_below (by (with_reducible repeat (first | apply Kd.S_alloc | apply Kd.S_drewN | apply Kd.S_drew)); exact HO_352001.out) hb)
   have n2_ := Aside0.mk (Kd.S_below (by (with_reducible repeat (first | apply Kd.S_alloc | apply Kd.S_drewN | apply Kd.S_drew)); exact HO360.out) hb)
   have n3_ := Aside0.mk (blk_below (bs BK335.out) hb)
   have n4_ := Aside0.mk (blk_below (bs BK351.out) hb)
   have n5_ := Aside0.mk (below_step (by repeat (first | (with_reducible first | exact bw HB.out | refine bset ?_ | apply bA | apply bN | apply bD) | exact HB.out)) hb)
   replace HO_11 := n0_
   replace HO_352001 := n1_
   replace HO360 := n2_
   replace BK335 := n3_
   replace BK351 := n4_
   replace HB := n5_
   clear n0_ n1_ n2_ n3_ n4_ n5_
   (try clear hb)
   (try clear hb2)
   (try clear hk)
   (try clear hi)
   refine hK.out _ _ ⟨(blk_cell BK351.out 0).trans rfl, (blk_cell BK351.out 1).trans rfl, (blk_cell BK335.out 0).trans rfl, (blk_cell BK335.out 1).trans rfl⟩ (fun hHeld => ?_)
   clear hK K
   refine norm_ (a' := ?_) ?_ ?_
   rotate_left
   ·show Act.put _ (some 55) _ = _
    simp only [aq_]
    rfl
   refine puq_ (i := 4) (N := some 56) rfl rfl (by kernel_rfl) (fun _ _ _ h => h) (Or.inl ⟨by rfl, by intro w'; go_simp; with_reducible rfl⟩) (by simp only [aq_]; rfl) ?_
   refine done_ (by kernel_rfl) ?_
   try go_wp2_with (first | ((with_reducible refine gate_callee (f := 8) rfl ?_); refine goesL_ (some 59) rfl rfl Try.func8 (by kernel_rfl) rfl #[.slice A2 l2.length c2] rfl (by (try simp only [mA_]); first | done | rfl | (simp only [List.length_drop, List.length_take]; rfl)) ?_; (with_reducible refine (laws_toIntA2S.calls kj19 _ _ l2 t362 _ ?side1 ?side2 A45.out).mono ?_); (case side1 => first | exact bC HR2.out HB.out | exact Kd.C_below HR2.out HB.out); (case side2 => exact HC2.out); rintro e w59 ⟨v363, rfl, ho0, hb⟩; refine ⟨_, rfl, ?_⟩; have n0_ := Aside0.mk (Kd.R_elder' (bR HO_11.out) (Kd.R_base ho0) hb); have n1_ := Aside0.mk (Kd.S_below (by (with_reducible repeat (first | apply Kd.S_alloc | apply Kd.S_drewN | apply Kd.S_drew)); exact HO_352001.out) hb); have n2_ := Aside0.mk (Kd.S_below (by (with_reducible repeat (first | apply Kd.S_alloc | apply Kd.S_drewN | apply Kd.S_drew)); exact HO360.out) hb); have n3_ := Aside0.mk (Kd.R_lower (Kd.R_new' ho0 (Kd.R_lt (bR HO_11.out))) (below_size (by repeat (first | (with_reducible first | exact bw HB.out | refine bset ?_ | apply bA | apply bN | apply bD) | exact HB.out)))); have n4_ := Aside0.mk (blk_below (bs BK335.out) hb); have n5_ := Aside0.mk (blk_below (bs BK351.out) hb); have n6_ := Aside0.mk (below_step (by repeat (first | (with_reducible first | exact bw HB.out | refine bset ?_ | apply bA | apply bN | apply bD) | exact HB.out)) hb); replace HO_11 := n0_; replace HO_352001 := n1_; replace HO360 := n2_; have HO364 := n3_; replace BK335 := n4_; replace BK351 := n5_; replace HB := n6_; clear n0_ n1_ n2_ n3_ n4_ n5_ n6_; (try clear hb); (try clear hb2); (try clear hk); (try clear hi); (try clear ho0); obtain ⟨Ao60, co60, eo60⟩ := Kd.R_slice HO364.out; subst eo60) | ((with_reducible refine gate_callee (f := 11) rfl ?_); refine goesL_ (some 60) rfl rfl Try.func11 (by kernel_rfl) rfl #[.slice Ao38 t352.length co38, .slice Ao60 t362.length co60] rfl (by (try simp only [mA_]); first | done | rfl | (simp only [List.length_drop, List.length_take]; rfl)) ?_; (with_reducible refine (laws_eqIntA2S.calls kj19 _ _ t352 _ _ t362 false _ ?side1 ?side2 ?side3 ?side4 A46.out).mono ?_); (case side1 => repeat (first | exact (Kd.R_reads' HO_11.out).2.2 | (with_reducible refine Kd.C_alloc ?_ _) | (with_reducible refine Kd.C_drewN ?_ _) | (with_reducible refine Kd.C_drew ?_))); (case side2 => exact (Kd.R_reads' HO_11.out).2.1); (case side3 => repeat (first | exact (Kd.R_reads' HO364.out).2.2 | (with_reducible refine Kd.C_alloc ?_ _) | (with_reducible refine Kd.C_drewN ?_ _) | (with_reducible refine Kd.C_drew ?_))); (case side4 => exact (Kd.R_reads' HO364.out).2.1); rintro e w61 ⟨rfl, hb⟩; refine ⟨_, rfl, ?_⟩; have n0_ := Aside0.mk (Kd.R_below (bR HO_11.out) hb); have n1_ := Aside0.mk (Kd.S_below (by (with_reducible repeat (first | apply Kd.S_alloc | apply Kd.S_drewN | apply Kd.S_drew)); exact HO_352001.out) hb); have n2_ := Aside0.mk (Kd.S_below (by (with_reducible repeat (first | apply Kd.S_alloc | apply Kd.S_drewN | apply Kd.S_drew)); exact HO360.out) hb); have n3_ := Aside0.mk (Kd.R_below (bR HO364.out) hb); have n4_ := Aside0.mk (blk_below (bs BK335.out) hb); have n5_ := Aside0.mk (blk_below (bs BK351.out) hb); have n6_ := Aside0.mk (below_step (by repeat (first | (with_reducible first | exact bw HB.out | refine bset ?_ | apply bA | apply bN | apply bD) | exact HB.out)) hb); replace HO_11 := n0_; replace HO_352001 := n1_; replace HO360 := n2_; replace HO364 := n3_; replace BK335 := n4_; replace BK351 := n5_; replace HB := n6_; clear n0_ n1_ n2_ n3_ n4_ n5_ n6_; (try clear hb); (try clear hb2); (try clear hk); (try clear hi)))
   go_ret
   exact ⟨by first | rfl | (simp [errW_none, errW_some] <;> rfl) | (simp [*, errW_none, errW_some] <;> rfl), by repeat (first | (with_reducible first | exact bw HB.out | refine bset ?_ | apply bA | apply bN | apply bD) | exact HB.out)⟩

end Go.Proofs.Ytdnphdbahhfcgaa.X
