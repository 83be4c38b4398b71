-- Written by a program of this session (wip/gen/xp.py, over the kit's printer). Not trusted: Lean checks it.
import Derived.Test.YtafdeppeacmpdaaX0
import Derived.Test.YtafdeppeacmpdaaXf18
import Derived.Test.YtafdeppeacmpdaaXf19
import Derived.Test.YtafdeppeacmpdaaXf37
import Derived.Test.YtafdeppeacmpdaaXf41
import Derived.Test.YtafdeppeacmpdaaXf44
namespace Go.Proofs.Ytafdeppeacmpdaa.X
open Go.RowKit Go.Proofs.YtafdeppeacmpdaaW.PrintWords Go.Proofs.YtafdeppeacmpdaaW.PrintLast Go.Proofs.YtafdeppeacmpdaaW.PrintMore
attribute [local go_sem] max2_int min2_int max_two min_two max_three min_three max_four min_four   -- for this text's walks alone
set_option linter.unusedVariables false
set_option linter.unusedSimpArgs false

/-! ### laws_FnExactRunningJobs: function 9 -/
mutual
def laws_FnExactRunningJobs.j0 : Nat → List Int → Bool → List Int → Bool → Bool → Int → Int → Int → List (S148) → List (S150) → Int → Int → Int → List (S137) → List (S135) → Option (Bool)
 | 0, _, _, _, _, _, _, _, _, _, _, _, _, _, _, _ => none
 | k + 1, x4, x5, x7, x8, x40, x660000, x660001, x660002, x660003, x660004, x684000, x684001, x684002, x684003, x684004 => if x40 = true then (some false) else ((laws_toDispatcher.f k x660000 x660001 x660002 x660003 x660004).bind fun bt689 => ((laws_eqDispatcher.f k x684000 x684001 x684002 x684003 x684004 bt689.1 bt689.2.1 bt689.2.2.1 bt689.2.2.2.1 bt689.2.2.2.2).bind fun t698 => (if t698 = true then ((laws_markDispatcher.f k x684000 x684001 x684002 x684003 x684004 1).bind fun bt699 => (if bt699.1 < 0 then (laws_FnExactRunningJobs.j1 k x4 x5 x7 true x660000 x660001 x660002 x660003 x660004) else ((laws_eqIntS.f k x7 x4).bind fun t702 => (if t702 = true then (laws_FnExactRunningJobs.j1 k x4 x5 x7 (x8 != x5) x660000 x660001 x660002 x660003 x660004) else (laws_FnExactRunningJobs.j1 k x4 x5 x7 true x660000 x660001 x660002 x660003 x660004))))) else (some false))))
def laws_FnExactRunningJobs.j1 : Nat → List Int → Bool → List Int → Bool → Int → Int → Int → List (S148) → List (S150) → Option (Bool)
 | 0, _, _, _, _, _, _, _, _, _ => none
 | k + 1, x4, x5, x7, x61, x660000, x660001, x660002, x660003, x660004 => if x61 = true then (some false) else ((laws_markIntS.f k x7 1).bind fun bt703 => ((laws_heldIntS.f k bt703.2 1).bind fun t705 => (if t705 < 0 then (some false) else (if t705 = bt703.1 then ((laws_toDispatcher.f k x660000 x660001 x660002 x660003 x660004).bind fun bt706 => ((impl_RunningJobs.f k bt706.1 bt706.2.1 bt706.2.2.1 bt706.2.2.2.1 bt706.2.2.2.2).bind fun bt715 => ((laws_eqIntS.f k bt715.1 x4).bind fun t719 => (if t719 = true then (laws_FnExactRunningJobs.j2 k bt703.2 bt703.1 (bt715.2 != x5)) else (laws_FnExactRunningJobs.j2 k bt703.2 bt703.1 true))))) else (some false)))))
def laws_FnExactRunningJobs.j2 : Nat → List Int → Int → Bool → Option (Bool)
 | 0, _, _, _ => none
 | k + 1, x7, x10, x87 => if x87 = true then (some false) else ((laws_heldIntS.f k x7 1).bind fun t720 => (if t720 < 0 then (some false) else (if t720 = x10 then (some true) else (some false))))
end
def laws_FnExactRunningJobs.f (k : Nat) (a0_0 : Int) (a0_1 : Int) (a0_2 : Int) (l0_3 : List (S148)) (l0_4 : List (S150)) : Option (Bool) := (laws_szDispatcher.f a0_0 a0_1 a0_2 l0_3 l0_4 1048576).bind fun t660 => (if t660 < 0 then (some true) else ((laws_toDispatcher.f k a0_0 a0_1 a0_2 l0_3 l0_4).bind fun bt661 => ((spec_RunningJobs.f k bt661.1 bt661.2.1 bt661.2.2.1 bt661.2.2.2.1 bt661.2.2.2.2).bind fun bt670 => ((laws_toDispatcher.f k a0_0 a0_1 a0_2 l0_3 l0_4).bind fun bt674 => ((impl_RunningJobs.f k bt674.1 bt674.2.1 bt674.2.2.1 bt674.2.2.2.1 bt674.2.2.2.2).bind fun bt684 => ((laws_eqIntS.f k bt684.1 bt670.1).bind fun t688 => (if t688 = true then (laws_FnExactRunningJobs.j0 k bt670.1 bt670.2 bt684.1 bt684.2 (bt684.2 != bt670.2) a0_0 a0_1 a0_2 l0_3 l0_4 bt674.1 bt674.2.1 bt674.2.2.1 bt674.2.2.2.1 bt674.2.2.2.2) else (laws_FnExactRunningJobs.j0 k bt670.1 bt670.2 bt684.1 bt684.2 true a0_0 a0_1 a0_2 l0_3 l0_4 bt674.1 bt674.2.1 bt674.2.2.1 bt674.2.2.2.1 bt674.2.2.2.2))))))))
theorem laws_FnExactRunningJobs.mono_l : ∀ k, (∀ y0 y1 y2 y3 y4 y5 y6 y7 y8 y9 y10 y11 y12 y13 y14, LeO (laws_FnExactRunningJobs.j0 k y0 y1 y2 y3 y4 y5 y6 y7 y8 y9 y10 y11 y12 y13 y14) (laws_FnExactRunningJobs.j0 (k + 1) y0 y1 y2 y3 y4 y5 y6 y7 y8 y9 y10 y11 y12 y13 y14)) ∧ (∀ y0 y1 y2 y3 y4 y5 y6 y7 y8, LeO (laws_FnExactRunningJobs.j1 k y0 y1 y2 y3 y4 y5 y6 y7 y8) (laws_FnExactRunningJobs.j1 (k + 1) y0 y1 y2 y3 y4 y5 y6 y7 y8)) ∧ (∀ y0 y1 y2, LeO (laws_FnExactRunningJobs.j2 k y0 y1 y2) (laws_FnExactRunningJobs.j2 (k + 1) y0 y1 y2))
 | 0 => ⟨fun _ _ _ _ _ _ _ _ _ _ _ _ _ _ _ r h => by simp [laws_FnExactRunningJobs.j0] at h, fun _ _ _ _ _ _ _ _ _ r h => by simp [laws_FnExactRunningJobs.j1] at h, fun _ _ _ r h => by simp [laws_FnExactRunningJobs.j2] at h⟩
 | k + 1 => by
  obtain ⟨ih0, ih1, ih2⟩ := laws_FnExactRunningJobs.mono_l k
  refine ⟨?_, ?_, ?_⟩
  ·intro y0 y1 y2 y3 y4 y5 y6 y7 y8 y9 y10 y11 y12 y13 y14
   unfold laws_FnExactRunningJobs.j0
   repeat' first
   | (with_reducible exact ih0 _ _ _ _ _ _ _ _ _ _ _ _ _ _ _)
   | (with_reducible exact ih1 _ _ _ _ _ _ _ _ _)
   | (with_reducible exact ih2 _ _ _)
   | (with_reducible exact impl_RunningJobs.mono _ _ _ _ _ _)
   | (with_reducible exact laws_eqDispatcher.mono _ _ _ _ _ _ _ _ _ _ _)
   | (with_reducible exact laws_eqIntS.mono _ _ _)
   | (with_reducible exact laws_heldIntS.mono _ _ _)
   | (with_reducible exact laws_markDispatcher.mono _ _ _ _ _ _ _)
   | (with_reducible exact laws_markIntS.mono _ _ _)
   | (with_reducible exact laws_toDispatcher.mono _ _ _ _ _ _)
   | (with_reducible exact spec_RunningJobs.mono _ _ _ _ _ _)
   | (with_reducible exact LeO.refl _)
   | (with_reducible exact LeO.none _)
   | (with_reducible refine LeO.ite ?_ ?_)
   | (with_reducible refine LeO.bind ?_ (fun _ => ?_))
   | exact ih0 _ _ _ _ _ _ _ _ _ _ _ _ _ _ _
   | exact ih1 _ _ _ _ _ _ _ _ _
   | exact ih2 _ _ _
   | exact impl_RunningJobs.mono _ _ _ _ _ _
   | exact laws_eqDispatcher.mono _ _ _ _ _ _ _ _ _ _ _
   | exact laws_eqIntS.mono _ _ _
   | exact laws_heldIntS.mono _ _ _
   | exact laws_markDispatcher.mono _ _ _ _ _ _ _
   | exact laws_markIntS.mono _ _ _
   | exact laws_toDispatcher.mono _ _ _ _ _ _
   | exact spec_RunningJobs.mono _ _ _ _ _ _
   | exact LeO.none _
   | refine LeO.ite ?_ ?_
   | refine LeO.bind ?_ (fun _ => ?_)
  ·intro y0 y1 y2 y3 y4 y5 y6 y7 y8
   unfold laws_FnExactRunningJobs.j1
   repeat' first
   | (with_reducible exact ih0 _ _ _ _ _ _ _ _ _ _ _ _ _ _ _)
   | (with_reducible exact ih1 _ _ _ _ _ _ _ _ _)
   | (with_reducible exact ih2 _ _ _)
   | (with_reducible exact impl_RunningJobs.mono _ _ _ _ _ _)
   | (with_reducible exact laws_eqDispatcher.mono _ _ _ _ _ _ _ _ _ _ _)
   | (with_reducible exact laws_eqIntS.mono _ _ _)
   | (with_reducible exact laws_heldIntS.mono _ _ _)
   | (with_reducible exact laws_markDispatcher.mono _ _ _ _ _ _ _)
   | (with_reducible exact laws_markIntS.mono _ _ _)
   | (with_reducible exact laws_toDispatcher.mono _ _ _ _ _ _)
   | (with_reducible exact spec_RunningJobs.mono _ _ _ _ _ _)
   | (with_reducible exact LeO.refl _)
   | (with_reducible exact LeO.none _)
   | (with_reducible refine LeO.ite ?_ ?_)
   | (with_reducible refine LeO.bind ?_ (fun _ => ?_))
   | exact ih0 _ _ _ _ _ _ _ _ _ _ _ _ _ _ _
   | exact ih1 _ _ _ _ _ _ _ _ _
   | exact ih2 _ _ _
   | exact impl_RunningJobs.mono _ _ _ _ _ _
   | exact laws_eqDispatcher.mono _ _ _ _ _ _ _ _ _ _ _
   | exact laws_eqIntS.mono _ _ _
   | exact laws_heldIntS.mono _ _ _
   | exact laws_markDispatcher.mono _ _ _ _ _ _ _
   | exact laws_markIntS.mono _ _ _
   | exact laws_toDispatcher.mono _ _ _ _ _ _
   | exact spec_RunningJobs.mono _ _ _ _ _ _
   | exact LeO.none _
   | refine LeO.ite ?_ ?_
   | refine LeO.bind ?_ (fun _ => ?_)
  ·intro y0 y1 y2
   unfold laws_FnExactRunningJobs.j2
   repeat' first
   | (with_reducible exact ih0 _ _ _ _ _ _ _ _ _ _ _ _ _ _ _)
   | (with_reducible exact ih1 _ _ _ _ _ _ _ _ _)
   | (with_reducible exact ih2 _ _ _)
   | (with_reducible exact impl_RunningJobs.mono _ _ _ _ _ _)
   | (with_reducible exact laws_eqDispatcher.mono _ _ _ _ _ _ _ _ _ _ _)
   | (with_reducible exact laws_eqIntS.mono _ _ _)
   | (with_reducible exact laws_heldIntS.mono _ _ _)
   | (with_reducible exact laws_markDispatcher.mono _ _ _ _ _ _ _)
   | (with_reducible exact laws_markIntS.mono _ _ _)
   | (with_reducible exact laws_toDispatcher.mono _ _ _ _ _ _)
   | (with_reducible exact spec_RunningJobs.mono _ _ _ _ _ _)
   | (with_reducible exact LeO.refl _)
   | (with_reducible exact LeO.none _)
   | (with_reducible refine LeO.ite ?_ ?_)
   | (with_reducible refine LeO.bind ?_ (fun _ => ?_))
   | exact ih0 _ _ _ _ _ _ _ _ _ _ _ _ _ _ _
   | exact ih1 _ _ _ _ _ _ _ _ _
   | exact ih2 _ _ _
   | exact impl_RunningJobs.mono _ _ _ _ _ _
   | exact laws_eqDispatcher.mono _ _ _ _ _ _ _ _ _ _ _
   | exact laws_eqIntS.mono _ _ _
   | exact laws_heldIntS.mono _ _ _
   | exact laws_markDispatcher.mono _ _ _ _ _ _ _
   | exact laws_markIntS.mono _ _ _
   | exact laws_toDispatcher.mono _ _ _ _ _ _
   | exact spec_RunningJobs.mono _ _ _ _ _ _
   | exact LeO.none _
   | refine LeO.ite ?_ ?_
   | refine LeO.bind ?_ (fun _ => ?_)
theorem laws_FnExactRunningJobs.mono : ∀ a0 a1 a2 a3 a4 k, LeO (laws_FnExactRunningJobs.f k a0 a1 a2 a3 a4) (laws_FnExactRunningJobs.f (k + 1) a0 a1 a2 a3 a4) := by
 intro a0 a1 a2 a3 a4 k
 obtain ⟨ih0, ih1, ih2⟩ := laws_FnExactRunningJobs.mono_l k
 unfold laws_FnExactRunningJobs.f
 repeat' first
   | (with_reducible exact ih0 _ _ _ _ _ _ _ _ _ _ _ _ _ _ _)
   | (with_reducible exact ih1 _ _ _ _ _ _ _ _ _)
   | (with_reducible exact ih2 _ _ _)
   | (with_reducible exact impl_RunningJobs.mono _ _ _ _ _ _)
   | (with_reducible exact laws_eqDispatcher.mono _ _ _ _ _ _ _ _ _ _ _)
   | (with_reducible exact laws_eqIntS.mono _ _ _)
   | (with_reducible exact laws_heldIntS.mono _ _ _)
   | (with_reducible exact laws_markDispatcher.mono _ _ _ _ _ _ _)
   | (with_reducible exact laws_markIntS.mono _ _ _)
   | (with_reducible exact laws_toDispatcher.mono _ _ _ _ _ _)
   | (with_reducible exact spec_RunningJobs.mono _ _ _ _ _ _)
   | (with_reducible exact LeO.refl _)
   | (with_reducible exact LeO.none _)
   | (with_reducible refine LeO.ite ?_ ?_)
   | (with_reducible refine LeO.bind ?_ (fun _ => ?_))
   | exact ih0 _ _ _ _ _ _ _ _ _ _ _ _ _ _ _
   | exact ih1 _ _ _ _ _ _ _ _ _
   | exact ih2 _ _ _
   | exact impl_RunningJobs.mono _ _ _ _ _ _
   | exact laws_eqDispatcher.mono _ _ _ _ _ _ _ _ _ _ _
   | exact laws_eqIntS.mono _ _ _
   | exact laws_heldIntS.mono _ _ _
   | exact laws_markDispatcher.mono _ _ _ _ _ _ _
   | exact laws_markIntS.mono _ _ _
   | exact laws_toDispatcher.mono _ _ _ _ _ _
   | exact spec_RunningJobs.mono _ _ _ _ _ _
   | exact LeO.none _
   | refine LeO.ite ?_ ?_
   | refine LeO.bind ?_ (fun _ => ?_)
set_option maxHeartbeats 8000000 in
set_option maxRecDepth 100000 in
theorem laws_FnExactRunningJobs.calls (k : Nat) (a0_0 : Int) (a0_1 : Int) (a0_2 : Int) (A0_3 : Option Addr) (c0_3 : Nat) (l0_3 : List (S148)) (A0_4 : Option Addr) (c0_4 : Nat) (l0_4 : List (S150)) (r : Bool) (w : World) (hr0_3 : Kd.C k148 w A0_3 l0_3.length l0_3) (hc0_3 : l0_3.length ≤ c0_3) (hr0_4 : Kd.C k150 w A0_4 l0_4.length l0_4) (hc0_4 : l0_4.length ≤ c0_4) (h : laws_FnExactRunningJobs.f k a0_0 a0_1 a0_2 l0_3 l0_4 = some r) :
  Calls Try.prog 9 #[.agg #[.int .i64 a0_0, .int .i64 a0_1, .int .i64 a0_2, .slice A0_3 l0_3.length c0_3, .slice A0_4 l0_4.length c0_4]] w fun e w' => e = .returned (.bool r) ∧ Below w.heap.size w w' := by
 have hu59 := Try.underlying59
 have hu25 := Try.underlying25
 have HR0_3 := Aside0.mk hr0_3
 have HC0_3 := Aside0.mk hc0_3
 clear hr0_3 hc0_3
 have HR0_4 := Aside0.mk hr0_4
 have HC0_4 := Aside0.mk hc0_4
 clear hr0_4 hc0_4
 have HB := Aside0.mk (Below.refl w.heap.size w)
 have H : ((laws_szDispatcher.f a0_0 a0_1 a0_2 l0_3 l0_4 1048576).bind fun t660 => (if t660 < 0 then (some true) else ((laws_toDispatcher.f k a0_0 a0_1 a0_2 l0_3 l0_4).bind fun bt661 => ((spec_RunningJobs.f k bt661.1 bt661.2.1 bt661.2.2.1 bt661.2.2.2.1 bt661.2.2.2.2).bind fun bt670 => ((laws_toDispatcher.f k a0_0 a0_1 a0_2 l0_3 l0_4).bind fun bt674 => ((impl_RunningJobs.f k bt674.1 bt674.2.1 bt674.2.2.1 bt674.2.2.2.1 bt674.2.2.2.2).bind fun bt684 => ((laws_eqIntS.f k bt684.1 bt670.1).bind fun t688 => (if t688 = true then (laws_FnExactRunningJobs.j0 k bt670.1 bt670.2 bt684.1 bt684.2 (bt684.2 != bt670.2) a0_0 a0_1 a0_2 l0_3 l0_4 bt674.1 bt674.2.1 bt674.2.2.1 bt674.2.2.2.1 bt674.2.2.2.2) else (laws_FnExactRunningJobs.j0 k bt670.1 bt670.2 bt684.1 bt684.2 true a0_0 a0_1 a0_2 l0_3 l0_4 bt674.1 bt674.2.1 bt674.2.2.1 bt674.2.2.2.1 bt674.2.2.2.2))))))))) = some r := h
 clear h
 replace H := Option.bind_eq_some_iff.mp H
 obtain ⟨t660, A20, H⟩ := H
 replace H : (if t660 < 0 then (some true) else ((laws_toDispatcher.f k a0_0 a0_1 a0_2 l0_3 l0_4).bind fun bt661 => ((spec_RunningJobs.f k bt661.1 bt661.2.1 bt661.2.2.1 bt661.2.2.2.1 bt661.2.2.2.2).bind fun bt670 => ((laws_toDispatcher.f k a0_0 a0_1 a0_2 l0_3 l0_4).bind fun bt674 => ((impl_RunningJobs.f k bt674.1 bt674.2.1 bt674.2.2.1 bt674.2.2.2.1 bt674.2.2.2.2).bind fun bt684 => ((laws_eqIntS.f k bt684.1 bt670.1).bind fun t688 => (if t688 = true then (laws_FnExactRunningJobs.j0 k bt670.1 bt670.2 bt684.1 bt684.2 (bt684.2 != bt670.2) a0_0 a0_1 a0_2 l0_3 l0_4 bt674.1 bt674.2.1 bt674.2.2.1 bt674.2.2.2.1 bt674.2.2.2.2) else (laws_FnExactRunningJobs.j0 k bt670.1 bt670.2 bt684.1 bt684.2 true a0_0 a0_1 a0_2 l0_3 l0_4 bt674.1 bt674.2.1 bt674.2.2.1 bt674.2.2.2.1 bt674.2.2.2.2)))))))) = some r := H
 have A2 := Aside0.mk A20
 clear A20
 by_cases c3 : t660 < 0
 ·rw [if_pos c3] at H
  have c3b0 : decide (t660 < 0) = true := decide_eq_true c3
  clear c3
  obtain rfl := Option.some.inj H
  go_enter Try.func9, Try.ntmps9
  go_wp2_with (first | ((with_reducible refine gate_dst (N := 1) rfl ?_); refine box_event ?hg (N := 1) ?hd (cs := #[.int .i64 a0_0, .int .i64 a0_1, .int .i64 a0_2, .slice A0_3 l0_3.length c0_3, .slice A0_4 l0_4.length c0_4]) (t := 59) ?hr ?_; (case hd => rfl); (case hg => rfl); (case hr => first | (go_simp; done) | (go_simp; rfl)); intro gb659 hg w4 hbox hb; have n0_ := Aside0.mk (below_step (bw HB.out) hb); have n1_ := Aside0.mk (hbox); have n2_ := ge_ hg HB.out; have n3_ := ge_ hg HB.out; clear HB; have HB := n0_; have BK659 := n1_; have GW659 := n2_; have GE659 := n3_; clear n0_ n1_ n2_ n3_; clear hb hbox hg; have hcz5_0 := b5_0 BK659.out; have hcz5_1 := b5_1 BK659.out; have hcz5_2 := b5_2 BK659.out; have hcz5_3 := b5_3 BK659.out; have hcz5_4 := b5_4 BK659.out; have hfz5_0 := blk_frozen BK659.out 0; have hfz5_1 := blk_frozen BK659.out 1; have hfz5_2 := blk_frozen BK659.out 2; have hfz5_3 := blk_frozen BK659.out 3; have hfz5_4 := blk_frozen BK659.out 4) | ((with_reducible refine gate_callee (f := 37) rfl ?_); refine goesL_ (some 16) rfl rfl Try.func37 (by kernel_rfl) rfl #[.agg #[.int .i64 a0_0, .int .i64 a0_1, .int .i64 a0_2, .slice A0_3 l0_3.length c0_3, .slice A0_4 l0_4.length c0_4], .int .i64 1048576] rfl (by (try simp only [mA_]); first | done | rfl | (simp only [List.length_drop, List.length_take]; rfl)) ?_; (with_reducible refine (laws_szDispatcher.calls a0_0 a0_1 a0_2 _ _ l0_3 _ _ l0_4 1048576 t660 _ ?side1 ?side2 ?side3 ?side4 A2.out).mono ?_); (case side1 => first | exact bC HR0_3.out HB.out | exact Kd.C_below HR0_3.out HB.out); (case side2 => exact HC0_3.out); (case side3 => first | exact bC HR0_4.out HB.out | exact Kd.C_below HR0_4.out HB.out); (case side4 => exact HC0_4.out); rintro e w6 ⟨rfl, hb⟩; refine ⟨_, rfl, ?_⟩; have n0_ := Aside0.mk (blk_below (bs BK659.out) hb); have n1_ := Aside0.mk (below_step (by repeat (first | (with_reducible first | exact bw HB.out | refine bset ?_ (by assumption) | apply below_alloc | apply pw_below_drewN | apply below_drew1) | exact HB.out)) hb); clear BK659; clear HB; have BK659 := n0_; have HB := n1_; clear n0_ n1_; (try clear hb); (try clear hb2); (try clear hk); (try clear hi)))
  go_ret
  exact ⟨by first | rfl | (simp [errW_none, errW_some] <;> rfl) | (simp [*, errW_none, errW_some] <;> rfl), by repeat (first | (with_reducible first | exact bw HB.out | refine bset ?_ (by assumption) | apply below_alloc | apply pw_below_drewN | apply below_drew1) | exact HB.out)⟩
 ·rw [if_neg c3] at H
  have c3b0 : decide (t660 < 0) = false := decide_eq_false c3
  clear c3
  replace H := Option.bind_eq_some_iff.mp H
  obtain ⟨⟨t661, t662, t663, t664, t667⟩, A70, H⟩ := H
  replace H : ((spec_RunningJobs.f k t661 t662 t663 t664 t667).bind fun bt670 => ((laws_toDispatcher.f k a0_0 a0_1 a0_2 l0_3 l0_4).bind fun bt674 => ((impl_RunningJobs.f k bt674.1 bt674.2.1 bt674.2.2.1 bt674.2.2.2.1 bt674.2.2.2.2).bind fun bt684 => ((laws_eqIntS.f k bt684.1 bt670.1).bind fun t688 => (if t688 = true then (laws_FnExactRunningJobs.j0 k bt670.1 bt670.2 bt684.1 bt684.2 (bt684.2 != bt670.2) a0_0 a0_1 a0_2 l0_3 l0_4 bt674.1 bt674.2.1 bt674.2.2.1 bt674.2.2.2.1 bt674.2.2.2.2) else (laws_FnExactRunningJobs.j0 k bt670.1 bt670.2 bt684.1 bt684.2 true a0_0 a0_1 a0_2 l0_3 l0_4 bt674.1 bt674.2.1 bt674.2.2.1 bt674.2.2.2.1 bt674.2.2.2.2)))))) = some r := H
  have A7 := Aside0.mk A70
  clear A70
  replace H := Option.bind_eq_some_iff.mp H
  obtain ⟨⟨t670, t673⟩, A80, H⟩ := H
  replace H : ((laws_toDispatcher.f k a0_0 a0_1 a0_2 l0_3 l0_4).bind fun bt674 => ((impl_RunningJobs.f k bt674.1 bt674.2.1 bt674.2.2.1 bt674.2.2.2.1 bt674.2.2.2.2).bind fun bt684 => ((laws_eqIntS.f k bt684.1 t670).bind fun t688 => (if t688 = true then (laws_FnExactRunningJobs.j0 k t670 t673 bt684.1 bt684.2 (bt684.2 != t673) a0_0 a0_1 a0_2 l0_3 l0_4 bt674.1 bt674.2.1 bt674.2.2.1 bt674.2.2.2.1 bt674.2.2.2.2) else (laws_FnExactRunningJobs.j0 k t670 t673 bt684.1 bt684.2 true a0_0 a0_1 a0_2 l0_3 l0_4 bt674.1 bt674.2.1 bt674.2.2.1 bt674.2.2.2.1 bt674.2.2.2.2))))) = some r := H
  have A8 := Aside0.mk A80
  clear A80
  replace H := Option.bind_eq_some_iff.mp H
  obtain ⟨⟨t674, t675, t676, t677, t680⟩, A90, H⟩ := H
  replace H : ((impl_RunningJobs.f k t674 t675 t676 t677 t680).bind fun bt684 => ((laws_eqIntS.f k bt684.1 t670).bind fun t688 => (if t688 = true then (laws_FnExactRunningJobs.j0 k t670 t673 bt684.1 bt684.2 (bt684.2 != t673) a0_0 a0_1 a0_2 l0_3 l0_4 t674 t675 t676 t677 t680) else (laws_FnExactRunningJobs.j0 k t670 t673 bt684.1 bt684.2 true a0_0 a0_1 a0_2 l0_3 l0_4 t674 t675 t676 t677 t680)))) = some r := H
  have A9 := Aside0.mk A90
  clear A90
  replace H := Option.bind_eq_some_iff.mp H
  obtain ⟨⟨t684, t687⟩, A100, H⟩ := H
  replace H : ((laws_eqIntS.f k t684 t670).bind fun t688 => (if t688 = true then (laws_FnExactRunningJobs.j0 k t670 t673 t684 t687 (t687 != t673) a0_0 a0_1 a0_2 l0_3 l0_4 t674 t675 t676 t677 t680) else (laws_FnExactRunningJobs.j0 k t670 t673 t684 t687 true a0_0 a0_1 a0_2 l0_3 l0_4 t674 t675 t676 t677 t680))) = some r := H
  have A10 := Aside0.mk A100
  clear A100
  have HC11 := Aside0.mk H
  clear H
  go_enter Try.func9, Try.ntmps9
  go_upto_region 8 with (first | ((with_reducible refine gate_dst (N := 1) rfl ?_); refine box_event ?hg (N := 1) ?hd (cs := #[.int .i64 a0_0, .int .i64 a0_1, .int .i64 a0_2, .slice A0_3 l0_3.length c0_3, .slice A0_4 l0_4.length c0_4]) (t := 59) ?hr ?_; (case hd => rfl); (case hg => rfl); (case hr => first | (go_simp; done) | (go_simp; rfl)); intro gb659 hg w12 hbox hb; have n0_ := Aside0.mk (below_step (bw HB.out) hb); have n1_ := Aside0.mk (hbox); have n2_ := ge_ hg HB.out; have n3_ := ge_ hg HB.out; clear HB; have HB := n0_; have BK659 := n1_; have GW659 := n2_; have GE659 := n3_; clear n0_ n1_ n2_ n3_; clear hb hbox hg; have hcz13_0 := b5_0 BK659.out; have hcz13_1 := b5_1 BK659.out; have hcz13_2 := b5_2 BK659.out; have hcz13_3 := b5_3 BK659.out; have hcz13_4 := b5_4 BK659.out; have hfz13_0 := blk_frozen BK659.out 0; have hfz13_1 := blk_frozen BK659.out 1; have hfz13_2 := blk_frozen BK659.out 2; have hfz13_3 := blk_frozen BK659.out 3; have hfz13_4 := blk_frozen BK659.out 4) | ((with_reducible refine gate_callee (f := 37) rfl ?_); refine goesL_ (some 16) rfl rfl Try.func37 (by kernel_rfl) rfl #[.agg #[.int .i64 a0_0, .int .i64 a0_1, .int .i64 a0_2, .slice A0_3 l0_3.length c0_3, .slice A0_4 l0_4.length c0_4], .int .i64 1048576] rfl (by (try simp only [mA_]); first | done | rfl | (simp only [List.length_drop, List.length_take]; rfl)) ?_; (with_reducible refine (laws_szDispatcher.calls a0_0 a0_1 a0_2 _ _ l0_3 _ _ l0_4 1048576 t660 _ ?side1 ?side2 ?side3 ?side4 A2.out).mono ?_); (case side1 => first | exact bC HR0_3.out HB.out | exact Kd.C_below HR0_3.out HB.out); (case side2 => exact HC0_3.out); (case side3 => first | exact bC HR0_4.out HB.out | exact Kd.C_below HR0_4.out HB.out); (case side4 => exact HC0_4.out); rintro e w14 ⟨rfl, hb⟩; refine ⟨_, rfl, ?_⟩; have n0_ := Aside0.mk (blk_below (bs BK659.out) hb); have n1_ := Aside0.mk (below_step (by repeat (first | (with_reducible first | exact bw HB.out | refine bset ?_ (by assumption) | apply below_alloc | apply pw_below_drewN | apply below_drew1) | exact HB.out)) hb); clear BK659; clear HB; have BK659 := n0_; have HB := n1_; clear n0_ n1_; (try clear hb); (try clear hb2); (try clear hk); (try clear hi); have hcz15_0 := b5_0 BK659.out; have hcz15_1 := b5_1 BK659.out; have hcz15_2 := b5_2 BK659.out; have hcz15_3 := b5_3 BK659.out; have hcz15_4 := b5_4 BK659.out; have hfz15_0 := blk_frozen BK659.out 0; have hfz15_1 := blk_frozen BK659.out 1; have hfz15_2 := blk_frozen BK659.out 2; have hfz15_3 := blk_frozen BK659.out 3; have hfz15_4 := blk_frozen BK659.out 4) | ((with_reducible refine gate_callee (f := 39) rfl ?_); refine goesL_ (some 21) rfl rfl Try.func39 (by kernel_rfl) rfl #[.agg #[.int .i64 a0_0, .int .i64 a0_1, .int .i64 a0_2, .slice A0_3 l0_3.length c0_3, .slice A0_4 l0_4.length c0_4]] rfl (by (try simp only [mA_]); first | done | rfl | (simp only [List.length_drop, List.length_take]; rfl)) ?_; (with_reducible refine (laws_toDispatcher.calls k a0_0 a0_1 a0_2 _ _ l0_3 _ _ l0_4 t661 t662 t663 t664 t667 _ ?side1 ?side2 ?side3 ?side4 A7.out).mono ?_); (case side1 => first | exact bC HR0_3.out HB.out | exact Kd.C_below HR0_3.out HB.out); (case side2 => exact HC0_3.out); (case side3 => first | exact bC HR0_4.out HB.out | exact Kd.C_below HR0_4.out HB.out); (case side4 => exact HC0_4.out); rintro e w16 ⟨v665, v668, rfl, ho0, ho1, hb⟩; refine ⟨_, rfl, ?_⟩; have n0_ := Aside0.mk (Kd.R_lower ho0 (below_size (by repeat (first | (with_reducible first | exact bw HB.out | refine bset ?_ (by assumption) | apply below_alloc | apply pw_below_drewN | apply below_drew1) | exact HB.out)))); have n1_ := Aside0.mk (Kd.R_lower ho1 (below_size (by repeat (first | (with_reducible first | exact bw HB.out | refine bset ?_ (by assumption) | apply below_alloc | apply pw_below_drewN | apply below_drew1) | exact HB.out)))); have n2_ := Aside0.mk (blk_below (bs BK659.out) hb); have n3_ := Aside0.mk (below_step (by repeat (first | (with_reducible first | exact bw HB.out | refine bset ?_ (by assumption) | apply below_alloc | apply pw_below_drewN | apply below_drew1) | exact HB.out)) hb); clear BK659; clear HB; have HO666 := n0_; have HO669 := n1_; have BK659 := n2_; have HB := n3_; clear n0_ n1_ n2_ n3_; (try clear hb); (try clear hb2); (try clear hk); (try clear hi); (try clear ho0); (try clear ho1); obtain ⟨Ao17, co17, eo17⟩ := Kd.R_slice HO666.out; subst eo17; obtain ⟨Ao18, co18, eo18⟩ := Kd.R_slice HO669.out; subst eo18) | ((with_reducible refine gate_callee (f := 44) rfl ?_); refine goesL_ (some 22) rfl rfl Try.func44 (by kernel_rfl) rfl #[.agg #[.int .i64 t661, .int .i64 t662, .int .i64 t663, .slice Ao17 t664.length co17, .slice Ao18 t667.length co18]] rfl (by (try simp only [mA_]); first | done | rfl | (simp only [List.length_drop, List.length_take]; rfl)) ?_; (with_reducible refine (spec_RunningJobs.calls k t661 t662 t663 _ _ t664 _ _ t667 t670 t673 _ ?side1 ?side2 ?side3 ?side4 A8.out).mono ?_); (case side1 => repeat (first | exact (Kd.R_reads' HO666.out).2.2 | (with_reducible refine Kd.C_alloc ?_ _) | (with_reducible refine Kd.C_drewN ?_ _) | (with_reducible refine Kd.C_drew ?_))); (case side2 => exact (Kd.R_reads' HO666.out).2.1); (case side3 => repeat (first | exact (Kd.R_reads' HO669.out).2.2 | (with_reducible refine Kd.C_alloc ?_ _) | (with_reducible refine Kd.C_drewN ?_ _) | (with_reducible refine Kd.C_drew ?_))); (case side4 => exact (Kd.R_reads' HO669.out).2.1); rintro e w19 ⟨v671, rfl, ho0, hb⟩; refine ⟨_, rfl, ?_⟩; have n0_ := Aside0.mk (Kd.R_below (bR HO666.out) hb); have n1_ := Aside0.mk (Kd.R_below (bR HO669.out) hb); have n2_ := Aside0.mk (Kd.R_lower ho0 (below_size (by repeat (first | (with_reducible first | exact bw HB.out | refine bset ?_ (by assumption) | apply below_alloc | apply pw_below_drewN | apply below_drew1) | exact HB.out)))); have n3_ := Aside0.mk (blk_below (bs BK659.out) hb); have n4_ := Aside0.mk (below_step (by repeat (first | (with_reducible first | exact bw HB.out | refine bset ?_ (by assumption) | apply below_alloc | apply pw_below_drewN | apply below_drew1) | exact HB.out)) hb); clear HO666; clear HO669; clear BK659; clear HB; have HO666 := n0_; have HO669 := n1_; have HO672 := n2_; have BK659 := n3_; have HB := n4_; clear n0_ n1_ n2_ n3_ n4_; (try clear hb); (try clear hb2); (try clear hk); (try clear hi); (try clear ho0); have hcz20_0 := b5_0 BK659.out; have hcz20_1 := b5_1 BK659.out; have hcz20_2 := b5_2 BK659.out; have hcz20_3 := b5_3 BK659.out; have hcz20_4 := b5_4 BK659.out; have hfz20_0 := blk_frozen BK659.out 0; have hfz20_1 := blk_frozen BK659.out 1; have hfz20_2 := blk_frozen BK659.out 2; have hfz20_3 := blk_frozen BK659.out 3; have hfz20_4 := blk_frozen BK659.out 4) | ((with_reducible refine gate_callee (f := 39) rfl ?_); refine goesL_ (some 26) rfl rfl Try.func39 (by kernel_rfl) rfl #[.agg #[.int .i64 a0_0, .int .i64 a0_1, .int .i64 a0_2, .slice A0_3 l0_3.length c0_3, .slice A0_4 l0_4.length c0_4]] rfl (by (try simp only [mA_]); first | done | rfl | (simp only [List.length_drop, List.length_take]; rfl)) ?_; (with_reducible refine (laws_toDispatcher.calls k a0_0 a0_1 a0_2 _ _ l0_3 _ _ l0_4 t674 t675 t676 t677 t680 _ ?side1 ?side2 ?side3 ?side4 A9.out).mono ?_); (case side1 => first | exact bC HR0_3.out HB.out | exact Kd.C_below HR0_3.out HB.out); (case side2 => exact HC0_3.out); (case side3 => first | exact bC HR0_4.out HB.out | exact Kd.C_below HR0_4.out HB.out); (case side4 => exact HC0_4.out); rintro e w21 ⟨v678, v681, rfl, ho0, ho1, hb⟩; refine ⟨_, rfl, ?_⟩; have n0_ := Aside0.mk (Kd.R_elder' (bR HO666.out) (Kd.R_base ho0) hb); have n1_ := Aside0.mk (Kd.R_elder' (bR HO669.out) (Kd.R_base ho1) hb); have n2_ := Aside0.mk (Kd.R_below (bR HO672.out) hb); have n3_ := Aside0.mk (Kd.R_lower (Kd.R_new' ho0 (Kd.R_lt (bR HO666.out))) (below_size (by repeat (first | (with_reducible first | exact bw HB.out | refine bset ?_ (by assumption) | apply below_alloc | apply pw_below_drewN | apply below_drew1) | exact HB.out)))); have n4_ := Aside0.mk (Kd.R_lower (Kd.R_new' ho1 (Kd.R_lt (bR HO669.out))) (below_size (by repeat (first | (with_reducible first | exact bw HB.out | refine bset ?_ (by assumption) | apply below_alloc | apply pw_below_drewN | apply below_drew1) | exact HB.out)))); have n5_ := Aside0.mk (blk_below (bs BK659.out) hb); have n6_ := Aside0.mk (below_step (by repeat (first | (with_reducible first | exact bw HB.out | refine bset ?_ (by assumption) | apply below_alloc | apply pw_below_drewN | apply below_drew1) | exact HB.out)) hb); clear HO666; clear HO669; clear HO672; clear BK659; clear HB; have HO666 := n0_; have HO669 := n1_; have HO672 := n2_; have HO679 := n3_; have HO682 := n4_; have BK659 := n5_; have HB := n6_; clear n0_ n1_ n2_ n3_ n4_ n5_ n6_; (try clear hb); (try clear hb2); (try clear hk); (try clear hi); (try clear ho0); (try clear ho1)) | ((with_reducible refine gate_dst (N := 6) rfl ?_); refine box_event ?hg (N := 6) ?hd (cs := #[.int .i64 0, .int .i64 0, .int .i64 0, .slice none 0 0, .slice none 0 0]) (t := 25) ?hr ?_; (case hd => rfl); (case hg => rfl); (case hr => first | (go_simp; done) | (go_simp; rfl)); intro gb683 hg w22 hbox hb; have n0_ := Aside0.mk (Kd.R_below (bR HO666.out) hb); have n1_ := Aside0.mk (Kd.R_below (bR HO669.out) hb); have n2_ := Aside0.mk (Kd.R_below (bR HO672.out) hb); have n3_ := Aside0.mk (Kd.R_below (bR HO679.out) hb); have n4_ := Aside0.mk (Kd.R_below (bR HO682.out) hb); have n5_ := Aside0.mk (blk_below (bs BK659.out) hb); have n6_ := Aside0.mk (below_step (by repeat (first | (with_reducible first | exact bw HB.out | refine bset ?_ (by assumption) | apply below_alloc | apply pw_below_drewN | apply below_drew1) | exact HB.out)) hb); have n7_ := Aside0.mk (hbox); have n8_ := Aside0.mk ((by rw [hg]; exact (below_size (by repeat (first | (with_reducible first | exact bw HB.out | refine bset ?_ (by assumption) | apply below_alloc | apply pw_below_drewN | apply below_drew1) | exact HB.out))) : w.heap.size ≤ gb683)); have n9_ := Aside0.mk ((by rw [hg]; exact (below_size (by repeat (first | (with_reducible first | exact bw HB.out | refine bset ?_ (by assumption) | apply below_alloc | apply pw_below_drewN | apply below_drew1) | exact HB.out))) : w.heap.size ≤ gb683)); have n10_ := ne_ hg BK659.out; have n11_ := en_ hg BK659.out; clear HO666; clear HO669; clear HO672; clear HO679; clear HO682; clear BK659; clear HB; have HO666 := n0_; have HO669 := n1_; have HO672 := n2_; have HO679 := n3_; have HO682 := n4_; have BK659 := n5_; have HB := n6_; have BK683 := n7_; have GW683 := n8_; have GE683 := n9_; have NB659_683 := n10_; have NB683_659 := n11_; clear n0_ n1_ n2_ n3_ n4_ n5_ n6_ n7_ n8_ n9_ n10_ n11_; clear hb hbox hg; have hnb23 := NB683_659.out; have hnc23 := NB659_683.out; have hcz24_0 := b5_0 BK683.out; have hcz24_1 := b5_1 BK683.out; have hcz24_2 := b5_2 BK683.out; have hcz24_3 := b5_3 BK683.out; have hcz24_4 := b5_4 BK683.out; have hfz24_0 := blk_frozen BK683.out 0; have hfz24_1 := blk_frozen BK683.out 1; have hfz24_2 := blk_frozen BK683.out 2; have hfz24_3 := blk_frozen BK683.out 3; have hfz24_4 := blk_frozen BK683.out 4; obtain ⟨Ao25, co25, eo25⟩ := Kd.R_slice HO679.out; subst eo25; obtain ⟨Ao26, co26, eo26⟩ := Kd.R_slice HO682.out; subst eo26) | ((with_reducible refine gate_callee (f := 45) rfl ?_); refine goesL_ (some 29) rfl rfl Try.func45 (by kernel_rfl) rfl #[.agg #[.int .i64 t674, .int .i64 t675, .int .i64 t676, .slice Ao25 t677.length co25, .slice Ao26 t680.length co26]] rfl (by (try simp only [mA_]); first | done | rfl | (simp only [List.length_drop, List.length_take]; rfl)) ?_; (with_reducible refine (impl_RunningJobs.calls k t674 t675 t676 _ _ t677 _ _ t680 t684 t687 _ ?side1 ?side2 ?side3 ?side4 A10.out).mono ?_); (case side1 => refine (Kd.R_reads' (e := 137) (base := w.heap.size) (ok := fun k_ => (True ∧ some k_ ≠ (.slice Ao17 t664.length co17 : Value).ownBlock)) (n := t677.length) (c := co25) ?_).2.2; exact (by (with_reducible repeat (first | apply Kd.R_alloc | apply Kd.R_drewN | apply Kd.R_drew)); exact (Kd.R_mono (Kd.R_far (p := ⟨gb683, 4, none⟩) (Kd.R_far (p := ⟨gb683, 3, none⟩) (Kd.R_far (p := ⟨gb683, 2, none⟩) (Kd.R_far (p := ⟨gb683, 1, none⟩) (Kd.R_far (p := ⟨gb683, 0, none⟩) (Kd.R_types HO679.out BK683.out (by decide)) (fun _ hk => hk.2) (.int .i64 t674)) (fun _ hk => hk.2) (.int .i64 t675)) (fun _ hk => hk.2) (.int .i64 t676)) (fun _ hk => hk.2) (.slice Ao25 t677.length co25)) (fun _ hk => hk.2) (.slice Ao26 t680.length co26)) (fun _ h_ => h_.1)))); (case side2 => exact (Kd.R_reads' HO679.out).2.1); (case side3 => refine (Kd.R_reads' (e := 135) (base := w.heap.size) (ok := fun k_ => (True ∧ some k_ ≠ (.slice Ao18 t667.length co18 : Value).ownBlock)) (n := t680.length) (c := co26) ?_).2.2; exact (by (with_reducible repeat (first | apply Kd.R_alloc | apply Kd.R_drewN | apply Kd.R_drew)); exact (Kd.R_mono (Kd.R_far (p := ⟨gb683, 4, none⟩) (Kd.R_far (p := ⟨gb683, 3, none⟩) (Kd.R_far (p := ⟨gb683, 2, none⟩) (Kd.R_far (p := ⟨gb683, 1, none⟩) (Kd.R_far (p := ⟨gb683, 0, none⟩) (Kd.R_types HO682.out BK683.out (by decide)) (fun _ hk => hk.2) (.int .i64 t674)) (fun _ hk => hk.2) (.int .i64 t675)) (fun _ hk => hk.2) (.int .i64 t676)) (fun _ hk => hk.2) (.slice Ao25 t677.length co25)) (fun _ hk => hk.2) (.slice Ao26 t680.length co26)) (fun _ h_ => h_.1)))); (case side4 => exact (Kd.R_reads' HO682.out).2.1); rintro e w27 ⟨v685, rfl, ho0, hb⟩; refine ⟨_, rfl, ?_⟩; have n0_ := Aside0.mk (Kd.R_below (by (with_reducible repeat (first | apply Kd.R_alloc | apply Kd.R_drewN | apply Kd.R_drew)); exact (Kd.R_mono (Kd.R_far (p := ⟨gb683, 4, none⟩) (Kd.R_far (p := ⟨gb683, 3, none⟩) (Kd.R_far (p := ⟨gb683, 2, none⟩) (Kd.R_far (p := ⟨gb683, 1, none⟩) (Kd.R_far (p := ⟨gb683, 0, none⟩) (Kd.R_types HO666.out BK683.out (by decide)) (fun _ hk => hk.2) (.int .i64 t674)) (fun _ hk => hk.2) (.int .i64 t675)) (fun _ hk => hk.2) (.int .i64 t676)) (fun _ hk => hk.2) (.slice Ao25 t677.length co25)) (fun _ hk => hk.2) (.slice Ao26 t680.length co26)) (fun _ h_ => h_.1))) hb); have n1_ := Aside0.mk (Kd.R_below (by (with_reducible repeat (first | apply Kd.R_alloc | apply Kd.R_drewN | apply Kd.R_drew)); exact (Kd.R_mono (Kd.R_far (p := ⟨gb683, 4, none⟩) (Kd.R_far (p := ⟨gb683, 3, none⟩) (Kd.R_far (p := ⟨gb683, 2, none⟩) (Kd.R_far (p := ⟨gb683, 1, none⟩) (Kd.R_far (p := ⟨gb683, 0, none⟩) (Kd.R_types HO669.out BK683.out (by decide)) (fun _ hk => hk.2) (.int .i64 t674)) (fun _ hk => hk.2) (.int .i64 t675)) (fun _ hk => hk.2) (.int .i64 t676)) (fun _ hk => hk.2) (.slice Ao25 t677.length co25)) (fun _ hk => hk.2) (.slice Ao26 t680.length co26)) (fun _ h_ => h_.1))) hb); have n2_ := Aside0.mk (Kd.R_elder' (by (with_reducible repeat (first | apply Kd.R_alloc | apply Kd.R_drewN | apply Kd.R_drew)); exact (Kd.R_mono (Kd.R_far (p := ⟨gb683, 4, none⟩) (Kd.R_far (p := ⟨gb683, 3, none⟩) (Kd.R_far (p := ⟨gb683, 2, none⟩) (Kd.R_far (p := ⟨gb683, 1, none⟩) (Kd.R_far (p := ⟨gb683, 0, none⟩) (Kd.R_types HO672.out BK683.out (by decide)) (fun _ hk => hk.2) (.int .i64 t674)) (fun _ hk => hk.2) (.int .i64 t675)) (fun _ hk => hk.2) (.int .i64 t676)) (fun _ hk => hk.2) (.slice Ao25 t677.length co25)) (fun _ hk => hk.2) (.slice Ao26 t680.length co26)) (fun _ h_ => h_.1))) (Kd.R_base ho0) hb); have n3_ := Aside0.mk (Kd.R_below (by (with_reducible repeat (first | apply Kd.R_alloc | apply Kd.R_drewN | apply Kd.R_drew)); exact (Kd.R_mono (Kd.R_far (p := ⟨gb683, 4, none⟩) (Kd.R_far (p := ⟨gb683, 3, none⟩) (Kd.R_far (p := ⟨gb683, 2, none⟩) (Kd.R_far (p := ⟨gb683, 1, none⟩) (Kd.R_far (p := ⟨gb683, 0, none⟩) (Kd.R_types HO679.out BK683.out (by decide)) (fun _ hk => hk.2) (.int .i64 t674)) (fun _ hk => hk.2) (.int .i64 t675)) (fun _ hk => hk.2) (.int .i64 t676)) (fun _ hk => hk.2) (.slice Ao25 t677.length co25)) (fun _ hk => hk.2) (.slice Ao26 t680.length co26)) (fun _ h_ => h_.1))) hb); have n4_ := Aside0.mk (Kd.R_below (by (with_reducible repeat (first | apply Kd.R_alloc | apply Kd.R_drewN | apply Kd.R_drew)); exact (Kd.R_mono (Kd.R_far (p := ⟨gb683, 4, none⟩) (Kd.R_far (p := ⟨gb683, 3, none⟩) (Kd.R_far (p := ⟨gb683, 2, none⟩) (Kd.R_far (p := ⟨gb683, 1, none⟩) (Kd.R_far (p := ⟨gb683, 0, none⟩) (Kd.R_types HO682.out BK683.out (by decide)) (fun _ hk => hk.2) (.int .i64 t674)) (fun _ hk => hk.2) (.int .i64 t675)) (fun _ hk => hk.2) (.int .i64 t676)) (fun _ hk => hk.2) (.slice Ao25 t677.length co25)) (fun _ hk => hk.2) (.slice Ao26 t680.length co26)) (fun _ h_ => h_.1))) hb); have n5_ := Aside0.mk (Kd.R_lower (Kd.R_new' ho0 (Kd.R_lt (by (with_reducible repeat (first | apply Kd.R_alloc | apply Kd.R_drewN | apply Kd.R_drew)); exact (Kd.R_mono (Kd.R_far (p := ⟨gb683, 4, none⟩) (Kd.R_far (p := ⟨gb683, 3, none⟩) (Kd.R_far (p := ⟨gb683, 2, none⟩) (Kd.R_far (p := ⟨gb683, 1, none⟩) (Kd.R_far (p := ⟨gb683, 0, none⟩) (Kd.R_types HO672.out BK683.out (by decide)) (fun _ hk => hk.2) (.int .i64 t674)) (fun _ hk => hk.2) (.int .i64 t675)) (fun _ hk => hk.2) (.int .i64 t676)) (fun _ hk => hk.2) (.slice Ao25 t677.length co25)) (fun _ hk => hk.2) (.slice Ao26 t680.length co26)) (fun _ h_ => h_.1))))) (below_size (by repeat (first | (with_reducible first | exact bw HB.out | refine bset ?_ (by assumption) | apply below_alloc | apply pw_below_drewN | apply below_drew1) | exact HB.out)))); have n6_ := Aside0.mk (blk_below (g := gb659) (o := .cells #[.int .i64 a0_0, .int .i64 a0_1, .int .i64 a0_2, .slice A0_3 l0_3.length c0_3, .slice A0_4 l0_4.length c0_4] 59 (0, 0)) (by (with_reducible repeat (first | refine blk_drewN ?_ _ | refine blk_drew ?_ | refine blk_alloc ?_ _)); refine blk_far ?_ NB659_683.out _; (with_reducible repeat (first | refine blk_drewN ?_ _ | refine blk_drew ?_ | refine blk_alloc ?_ _)); refine blk_far ?_ NB659_683.out _; (with_reducible repeat (first | refine blk_drewN ?_ _ | refine blk_drew ?_ | refine blk_alloc ?_ _)); refine blk_far ?_ NB659_683.out _; (with_reducible repeat (first | refine blk_drewN ?_ _ | refine blk_drew ?_ | refine blk_alloc ?_ _)); refine blk_far ?_ NB659_683.out _; (with_reducible repeat (first | refine blk_drewN ?_ _ | refine blk_drew ?_ | refine blk_alloc ?_ _)); refine blk_far ?_ NB659_683.out _; exact bs BK659.out) hb); have n7_ := Aside0.mk (blk_below (g := gb683) (o := .cells #[.int .i64 t674, .int .i64 t675, .int .i64 t676, .slice Ao25 t677.length co25, .slice Ao26 t680.length co26] 25 (0, 0)) (by (with_reducible repeat (first | refine blk_drewN ?_ _ | refine blk_drew ?_ | refine blk_alloc ?_ _)); refine blk_put (cs := #[.int .i64 t674, .int .i64 t675, .int .i64 t676, .slice Ao25 t677.length co25, .slice none 0 0]) ?_ 4 _ rfl; (with_reducible repeat (first | refine blk_drewN ?_ _ | refine blk_drew ?_ | refine blk_alloc ?_ _)); refine blk_put (cs := #[.int .i64 t674, .int .i64 t675, .int .i64 t676, .slice none 0 0, .slice none 0 0]) ?_ 3 _ rfl; (with_reducible repeat (first | refine blk_drewN ?_ _ | refine blk_drew ?_ | refine blk_alloc ?_ _)); refine blk_put (cs := #[.int .i64 t674, .int .i64 t675, .int .i64 0, .slice none 0 0, .slice none 0 0]) ?_ 2 _ rfl; (with_reducible repeat (first | refine blk_drewN ?_ _ | refine blk_drew ?_ | refine blk_alloc ?_ _)); refine blk_put (cs := #[.int .i64 t674, .int .i64 0, .int .i64 0, .slice none 0 0, .slice none 0 0]) ?_ 1 _ rfl; (with_reducible repeat (first | refine blk_drewN ?_ _ | refine blk_drew ?_ | refine blk_alloc ?_ _)); refine blk_put (cs := #[.int .i64 0, .int .i64 0, .int .i64 0, .slice none 0 0, .slice none 0 0]) ?_ 0 _ rfl; exact bs BK683.out) hb); have n8_ := Aside0.mk (below_step (by repeat (first | (with_reducible first | exact bw HB.out | refine bset ?_ (by assumption) | apply below_alloc | apply pw_below_drewN | apply below_drew1) | exact HB.out)) hb); clear HO666; clear HO669; clear HO672; clear HO679; clear HO682; clear BK659; clear BK683; clear HB; have HO666 := n0_; have HO669 := n1_; have HO672 := n2_; have HO679 := n3_; have HO682 := n4_; have HO686 := n5_; have BK659 := n6_; have BK683 := n7_; have HB := n8_; clear n0_ n1_ n2_ n3_ n4_ n5_ n6_ n7_ n8_; (try clear hb); (try clear hb2); (try clear hk); (try clear hi); (try clear ho0)))
  (try simp only [Act.put, List.setIfInBounds_toArray, List.set_cons_zero, List.set_cons_succ])
  go_cut [40] (fun v40 wc => ∃ (kq : Nat) (x40_10 : Bool), v40 = .bool x40_10 ∧ Aside0 (laws_FnExactRunningJobs.j0 kq t670 t673 t684 t687 x40_10 a0_0 a0_1 a0_2 l0_3 l0_4 t674 t675 t676 t677 t680 = some r) ∧ Aside0 (kq ≤ k) ∧ Aside0 (Kd.R (Kd.int .i64) 3 wc w.heap.size (fun k_ => some k_ ≠ (v685 : Value).ownBlock) v671 t670) ∧ Aside0 (Kd.R (Kd.int .i64) 3 wc w.heap.size (fun k_ => some k_ ≠ (v671 : Value).ownBlock) v685 t684) ∧ Aside0 (Kd.R k137 137 wc w.heap.size (fun _ => True) (.slice Ao25 t677.length co25) t677) ∧ Aside0 (Kd.R k135 135 wc w.heap.size (fun _ => True) (.slice Ao26 t680.length co26) t680) ∧ Aside0 (wc.heap[gb659]? = some (.cells #[.int .i64 a0_0, .int .i64 a0_1, .int .i64 a0_2, (.slice A0_3 l0_3.length c0_3), (.slice A0_4 l0_4.length c0_4)] 59 (0, 0))) ∧ Aside0 (wc.heap[gb683]? = some (.cells #[.int .i64 t674, .int .i64 t675, .int .i64 t676, (.slice Ao25 t677.length co25), (.slice Ao26 t680.length co26)] 25 (0, 0))) ∧ Aside0 (Below w.heap.size w wc))
  case first =>
   have H := HC11.out
   clear HC11
   replace H := Option.bind_eq_some_iff.mp H
   obtain ⟨t688, A280, H⟩ := H
   replace H : (if t688 = true then (laws_FnExactRunningJobs.j0 k t670 t673 t684 t687 (t687 != t673) a0_0 a0_1 a0_2 l0_3 l0_4 t674 t675 t676 t677 t680) else (laws_FnExactRunningJobs.j0 k t670 t673 t684 t687 true a0_0 a0_1 a0_2 l0_3 l0_4 t674 t675 t676 t677 t680)) = some r := H
   have A28 := Aside0.mk A280
   clear A280
   by_cases c29 : t688 = true
   ·subst c29
    have H1 : (laws_FnExactRunningJobs.j0 k t670 t673 t684 t687 (t687 != t673) a0_0 a0_1 a0_2 l0_3 l0_4 t674 t675 t676 t677 t680) = some r := by rw [if_pos rfl] at H; exact H
    clear H
    have H := H1
    clear H1
    have H' := Aside0.mk H
    clear H
    obtain ⟨Ao30, co30, eo30⟩ := Kd.R_slice HO686.out
    subst eo30
    obtain ⟨Ao31, co31, eo31⟩ := Kd.R_slice HO672.out
    subst eo31
    go_wp2_with (first | ((with_reducible refine gate_callee (f := 41) rfl ?_); refine goesL_ (some 34) rfl rfl Try.func41 (by kernel_rfl) rfl #[.slice Ao30 t684.length co30, .slice Ao31 t670.length co31] rfl (by (try simp only [mA_]); first | done | rfl | (simp only [List.length_drop, List.length_take]; rfl)) ?_; (with_reducible refine (laws_eqIntS.calls k _ _ t684 _ _ t670 true _ ?side1 ?side2 ?side3 ?side4 A28.out).mono ?_); (case side1 => repeat (first | exact (Kd.R_reads' HO686.out).2.2 | (with_reducible refine Kd.C_alloc ?_ _) | (with_reducible refine Kd.C_drewN ?_ _) | (with_reducible refine Kd.C_drew ?_))); (case side2 => exact (Kd.R_reads' HO686.out).2.1); (case side3 => repeat (first | exact (Kd.R_reads' HO672.out).2.2 | (with_reducible refine Kd.C_alloc ?_ _) | (with_reducible refine Kd.C_drewN ?_ _) | (with_reducible refine Kd.C_drew ?_))); (case side4 => exact (Kd.R_reads' HO672.out).2.1); rintro e w' ⟨rfl, ⟨nd, rfl⟩⟩; refine ⟨_, rfl, ?_⟩))
    go_meet
    case rel => exact ⟨_, ((t687 != t673)), (by first | rfl | (simp; done) | (simp [*]; done)), H', ⟨by first | omega | exact Nat.le_refl _⟩, ⟨by (with_reducible repeat (first | apply Kd.R_alloc | apply Kd.R_drewN | apply Kd.R_drew)); exact Kd.R_mono HO672.out (fun _ hk => hk.2)⟩, ⟨by (with_reducible repeat (first | apply Kd.R_alloc | apply Kd.R_drewN | apply Kd.R_drew)); exact Kd.R_mono HO686.out (fun _ hk => hk.2)⟩, ⟨by (with_reducible repeat (first | apply Kd.R_alloc | apply Kd.R_drewN | apply Kd.R_drew)); exact Kd.R_mono HO679.out (fun _ hk => trivial)⟩, ⟨by (with_reducible repeat (first | apply Kd.R_alloc | apply Kd.R_drewN | apply Kd.R_drew)); exact Kd.R_mono HO682.out (fun _ hk => trivial)⟩, ⟨bs BK659.out⟩, ⟨bs BK683.out⟩, ⟨by repeat (first | (with_reducible first | exact bw HB.out | refine bset ?_ (by assumption) | apply below_alloc | apply pw_below_drewN | apply below_drew1) | exact HB.out)⟩⟩
   ·replace c29 := Bool.eq_false_iff.mpr c29
    subst c29
    have H1 : (laws_FnExactRunningJobs.j0 k t670 t673 t684 t687 true a0_0 a0_1 a0_2 l0_3 l0_4 t674 t675 t676 t677 t680) = some r := by rw [if_neg (show ¬ (false = true) by decide)] at H; exact H
    clear H
    have H := H1
    clear H1
    have H' := Aside0.mk H
    clear H
    obtain ⟨Ao32, co32, eo32⟩ := Kd.R_slice HO686.out
    subst eo32
    obtain ⟨Ao33, co33, eo33⟩ := Kd.R_slice HO672.out
    subst eo33
    go_wp2_with (first | ((with_reducible refine gate_callee (f := 41) rfl ?_); refine goesL_ (some 34) rfl rfl Try.func41 (by kernel_rfl) rfl #[.slice Ao32 t684.length co32, .slice Ao33 t670.length co33] rfl (by (try simp only [mA_]); first | done | rfl | (simp only [List.length_drop, List.length_take]; rfl)) ?_; (with_reducible refine (laws_eqIntS.calls k _ _ t684 _ _ t670 false _ ?side1 ?side2 ?side3 ?side4 A28.out).mono ?_); (case side1 => repeat (first | exact (Kd.R_reads' HO686.out).2.2 | (with_reducible refine Kd.C_alloc ?_ _) | (with_reducible refine Kd.C_drewN ?_ _) | (with_reducible refine Kd.C_drew ?_))); (case side2 => exact (Kd.R_reads' HO686.out).2.1); (case side3 => repeat (first | exact (Kd.R_reads' HO672.out).2.2 | (with_reducible refine Kd.C_alloc ?_ _) | (with_reducible refine Kd.C_drewN ?_ _) | (with_reducible refine Kd.C_drew ?_))); (case side4 => exact (Kd.R_reads' HO672.out).2.1); rintro e w' ⟨rfl, ⟨nd, rfl⟩⟩; refine ⟨_, rfl, ?_⟩))
    go_meet
    case rel => exact ⟨_, (true), (by first | rfl | (simp; done) | (simp [*]; done)), H', ⟨by first | omega | exact Nat.le_refl _⟩, ⟨by (with_reducible repeat (first | apply Kd.R_alloc | apply Kd.R_drewN | apply Kd.R_drew)); exact Kd.R_mono HO672.out (fun _ hk => hk.2)⟩, ⟨by (with_reducible repeat (first | apply Kd.R_alloc | apply Kd.R_drewN | apply Kd.R_drew)); exact Kd.R_mono HO686.out (fun _ hk => hk.2)⟩, ⟨by (with_reducible repeat (first | apply Kd.R_alloc | apply Kd.R_drewN | apply Kd.R_drew)); exact Kd.R_mono HO679.out (fun _ hk => trivial)⟩, ⟨by (with_reducible repeat (first | apply Kd.R_alloc | apply Kd.R_drewN | apply Kd.R_drew)); exact Kd.R_mono HO682.out (fun _ hk => trivial)⟩, ⟨bs BK659.out⟩, ⟨bs BK683.out⟩, ⟨by repeat (first | (with_reducible first | exact bw HB.out | refine bset ?_ (by assumption) | apply below_alloc | apply pw_below_drewN | apply below_drew1) | exact HB.out)⟩⟩
  case rest =>
   clear HC11
   try clear c2
   try clear p2
   try clear c3
   try clear c3b0
   try clear c4
   try clear c9
   try clear c23
   try clear c29
   try clear hcz13_0
   try clear hcz13_1
   try clear hcz13_2
   try clear hcz13_3
   try clear hcz13_4
   try clear hcz15_0
   try clear hcz15_1
   try clear hcz15_2
   try clear hcz15_3
   try clear hcz15_4
   try clear hcz20_0
   try clear hcz20_1
   try clear hcz20_2
   try clear hcz20_3
   try clear hcz20_4
   try clear hcz24_0
   try clear hcz24_1
   try clear hcz24_2
   try clear hcz24_3
   try clear hcz24_4
   try clear hcz5_0
   try clear hcz5_1
   try clear hcz5_2
   try clear hcz5_3
   try clear hcz5_4
   try clear hfz13_0
   try clear hfz13_1
   try clear hfz13_2
   try clear hfz13_3
   try clear hfz13_4
   try clear hfz15_0
   try clear hfz15_1
   try clear hfz15_2
   try clear hfz15_3
   try clear hfz15_4
   try clear hfz20_0
   try clear hfz20_1
   try clear hfz20_2
   try clear hfz20_3
   try clear hfz20_4
   try clear hfz24_0
   try clear hfz24_1
   try clear hfz24_2
   try clear hfz24_3
   try clear hfz24_4
   try clear hfz5_0
   try clear hfz5_1
   try clear hfz5_2
   try clear hfz5_3
   try clear hfz5_4
   obtain ⟨kq, x40_10, rfl, HA, HJ10, HO_4, HO_7, HO_684003, HO_684004, BK659, BK683, HB⟩ := hcut
   cases kq with
   | zero => exact absurd HA.out (by simp [laws_FnExactRunningJobs.j0])
   | succ kj10 =>
    have H := HA.out
    clear HA
    simp only [laws_FnExactRunningJobs.j0] at H
    by_cases c34 : x40_10 = true
    ·subst c34
     have H1 : (some false) = some r := by rw [if_pos rfl] at H; exact H
     clear H
     have H := H1
     clear H1
     obtain rfl := Option.some.inj H
     go_wp2
     go_ret
     exact ⟨by first | rfl | (simp [errW_none, errW_some] <;> rfl) | (simp [*, errW_none, errW_some] <;> rfl), by repeat (first | (with_reducible first | exact bw HB.out | refine bset ?_ (by assumption) | apply below_alloc | apply pw_below_drewN | apply below_drew1) | exact HB.out)⟩
    ·replace c34 := Bool.eq_false_iff.mpr c34
     subst c34
     have H1 : ((laws_toDispatcher.f kj10 a0_0 a0_1 a0_2 l0_3 l0_4).bind fun bt689 => ((laws_eqDispatcher.f kj10 t674 t675 t676 t677 t680 bt689.1 bt689.2.1 bt689.2.2.1 bt689.2.2.2.1 bt689.2.2.2.2).bind fun t698 => (if t698 = true then ((laws_markDispatcher.f kj10 t674 t675 t676 t677 t680 1).bind fun bt699 => (if bt699.1 < 0 then (laws_FnExactRunningJobs.j1 kj10 t670 t673 t684 true a0_0 a0_1 a0_2 l0_3 l0_4) else ((laws_eqIntS.f kj10 t684 t670).bind fun t702 => (if t702 = true then (laws_FnExactRunningJobs.j1 kj10 t670 t673 t684 (t687 != t673) a0_0 a0_1 a0_2 l0_3 l0_4) else (laws_FnExactRunningJobs.j1 kj10 t670 t673 t684 true a0_0 a0_1 a0_2 l0_3 l0_4))))) else (some false)))) = some r := by rw [if_neg (show ¬ (false = true) by decide)] at H; exact H
     clear H
     have H := H1
     clear H1
     replace H := Option.bind_eq_some_iff.mp H
     obtain ⟨⟨t689, t690, t691, t692, t695⟩, A350, H⟩ := H
     replace H : ((laws_eqDispatcher.f kj10 t674 t675 t676 t677 t680 t689 t690 t691 t692 t695).bind fun t698 => (if t698 = true then ((laws_markDispatcher.f kj10 t674 t675 t676 t677 t680 1).bind fun bt699 => (if bt699.1 < 0 then (laws_FnExactRunningJobs.j1 kj10 t670 t673 t684 true a0_0 a0_1 a0_2 l0_3 l0_4) else ((laws_eqIntS.f kj10 t684 t670).bind fun t702 => (if t702 = true then (laws_FnExactRunningJobs.j1 kj10 t670 t673 t684 (t687 != t673) a0_0 a0_1 a0_2 l0_3 l0_4) else (laws_FnExactRunningJobs.j1 kj10 t670 t673 t684 true a0_0 a0_1 a0_2 l0_3 l0_4))))) else (some false))) = some r := H
     have A35 := Aside0.mk A350
     clear A350
     replace H := Option.bind_eq_some_iff.mp H
     obtain ⟨t698, A360, H⟩ := H
     replace H : (if t698 = true then ((laws_markDispatcher.f kj10 t674 t675 t676 t677 t680 1).bind fun bt699 => (if bt699.1 < 0 then (laws_FnExactRunningJobs.j1 kj10 t670 t673 t684 true a0_0 a0_1 a0_2 l0_3 l0_4) else ((laws_eqIntS.f kj10 t684 t670).bind fun t702 => (if t702 = true then (laws_FnExactRunningJobs.j1 kj10 t670 t673 t684 (t687 != t673) a0_0 a0_1 a0_2 l0_3 l0_4) else (laws_FnExactRunningJobs.j1 kj10 t670 t673 t684 true a0_0 a0_1 a0_2 l0_3 l0_4))))) else (some false)) = some r := H
     have A36 := Aside0.mk A360
     clear A360
     by_cases c37 : t698 = true
     ·subst c37
      have H1 : ((laws_markDispatcher.f kj10 t674 t675 t676 t677 t680 1).bind fun bt699 => (if bt699.1 < 0 then (laws_FnExactRunningJobs.j1 kj10 t670 t673 t684 true a0_0 a0_1 a0_2 l0_3 l0_4) else ((laws_eqIntS.f kj10 t684 t670).bind fun t702 => (if t702 = true then (laws_FnExactRunningJobs.j1 kj10 t670 t673 t684 (t687 != t673) a0_0 a0_1 a0_2 l0_3 l0_4) else (laws_FnExactRunningJobs.j1 kj10 t670 t673 t684 true a0_0 a0_1 a0_2 l0_3 l0_4))))) = some r := by rw [if_pos rfl] at H; exact H
      clear H
      have H := H1
      clear H1
      replace H := Option.bind_eq_some_iff.mp H
      obtain ⟨⟨t699, t700, t701⟩, A380, H⟩ := H
      replace H : (if t699 < 0 then (laws_FnExactRunningJobs.j1 kj10 t670 t673 t684 true a0_0 a0_1 a0_2 l0_3 l0_4) else ((laws_eqIntS.f kj10 t684 t670).bind fun t702 => (if t702 = true then (laws_FnExactRunningJobs.j1 kj10 t670 t673 t684 (t687 != t673) a0_0 a0_1 a0_2 l0_3 l0_4) else (laws_FnExactRunningJobs.j1 kj10 t670 t673 t684 true a0_0 a0_1 a0_2 l0_3 l0_4)))) = some r := H
      have A38 := Aside0.mk A380
      clear A380
      have HC39 := Aside0.mk H
      clear H
      try go_wp2
      have n0_ := Aside0.mk (Kd.R_drew HO_4.out)
      have n1_ := Aside0.mk (Kd.R_drew HO_7.out)
      have n2_ := Aside0.mk (Kd.R_drew HO_684003.out)
      have n3_ := Aside0.mk (Kd.R_drew HO_684004.out)
      have n4_ := Aside0.mk (blk_drew BK659.out)
      have n5_ := Aside0.mk (blk_drew BK683.out)
      have n6_ := Aside0.mk (below_drew1 HB.out)
      clear HO_4
      clear HO_7
      clear HO_684003
      clear HO_684004
      clear BK659
      clear BK683
      clear HB
      have HO_4 := n0_
      have HO_7 := n1_
      have HO_684003 := n2_
      have HO_684004 := n3_
      have BK659 := n4_
      have BK683 := n5_
      have HB := n6_
      clear n0_ n1_ n2_ n3_ n4_ n5_ n6_
      refine start_ (n := 5) (S := fun w' => w'.cell? ⟨gb683, 0, none⟩ = some (.int .i64 t674) ∧ w'.cell? ⟨gb683, 1, none⟩ = some (.int .i64 t675) ∧ w'.cell? ⟨gb683, 2, none⟩ = some (.int .i64 t676) ∧ w'.cell? ⟨gb683, 3, none⟩ = some (.slice Ao25 t677.length co25) ∧ w'.cell? ⟨gb683, 4, none⟩ = some (.slice Ao26 t680.length co26) ∧ w'.cell? ⟨gb659, 0, none⟩ = some (.int .i64 a0_0) ∧ w'.cell? ⟨gb659, 1, none⟩ = some (.int .i64 a0_1) ∧ w'.cell? ⟨gb659, 2, none⟩ = some (.int .i64 a0_2) ∧ w'.cell? ⟨gb659, 3, none⟩ = some (.slice A0_3 l0_3.length c0_3) ∧ w'.cell? ⟨gb659, 4, none⟩ = some (.slice A0_4 l0_4.length c0_4)) (ds := []) #[false, false, false, false, false] (by kernel_rfl) rfl rfl ⟨(blk_cell BK683.out 0).trans rfl, (blk_cell BK683.out 1).trans rfl, (blk_cell BK683.out 2).trans rfl, (blk_cell BK683.out 3).trans rfl, (blk_cell BK683.out 4).trans rfl, (blk_cell BK659.out 0).trans rfl, (blk_cell BK659.out 1).trans rfl, (blk_cell BK659.out 2).trans rfl, (blk_cell BK659.out 3).trans rfl, (blk_cell BK659.out 4).trans rfl⟩ (fun hHeld => ?_)
      generalize wc.drew = w40 at HO_4 HO_7 HO_684003 HO_684004 BK659 BK683 HB hHeld ⊢
      refine take_ (i := 0) (N := some 41) (v := ?_) (a' := ?_) #[true, false, false, false, false] rfl rfl (by kernel_rfl) (fun _ _ _ h => h) (Or.inl ⟨by rfl, ?_⟩) hHeld ?_ ?_
      rotate_left
      ·rintro w' ⟨s0, s1, s2, s3, s4, s5, s6, s7, s8, s9⟩
       go_simp
       with_reducible rfl
      rotate_left
      ·simp only [aq_]
       rfl
      refine take_ (i := 1) (N := some 42) (v := ?_) (a' := ?_) #[true, true, false, false, false] rfl rfl (by kernel_rfl) (fun _ _ _ h => h) (Or.inl ⟨by rfl, ?_⟩) hHeld ?_ ?_
      rotate_left
      ·rintro w' ⟨s0, s1, s2, s3, s4, s5, s6, s7, s8, s9⟩
       go_simp
       with_reducible rfl
      rotate_left
      ·simp only [aq_]
       rfl
      refine one_ (i := 2) (N := some 43) #[true, true, true, false, false] rfl rfl (by kernel_rfl) (by decide) (fun K hK => ?_)
      refine goes_ Try.func39 (by kernel_rfl) rfl #[.agg #[.int .i64 a0_0, .int .i64 a0_1, .int .i64 a0_2, .slice A0_3 l0_3.length c0_3, .slice A0_4 l0_4.length c0_4]] (by rfl) rfl rfl (by (try simp only [mA_]); first | done | rfl | (simp only [List.length_drop, List.length_take]; rfl)) ?_
      with_reducible refine (laws_toDispatcher.calls kj10 a0_0 a0_1 a0_2 _ _ l0_3 _ _ l0_4 t689 t690 t691 t692 t695 _ ?side1 ?side2 ?side3 ?side4 A35.out).mono ?_
      (case side1 => first | exact bC HR0_3.out HB.out | exact Kd.C_below HR0_3.out HB.out)
      (case side2 => exact HC0_3.out)
      (case side3 => first | exact bC HR0_4.out HB.out | exact Kd.C_below HR0_4.out HB.out)
      (case side4 => exact HC0_4.out)
      rintro e w41 ⟨v693, v696, rfl, ho0, ho1, hb⟩
      refine ⟨_, rfl, ?_⟩
      have n0_ := Aside0.mk (Kd.R_below (bR HO_4.out) hb)
      have n1_ := Aside0.mk (Kd.R_below (bR HO_7.out) hb)
      have n2_ := Aside0.mk (Kd.R_elder' (bR HO_684003.out) (Kd.R_base ho0) hb)
      have n3_ := Aside0.mk (Kd.R_elder' (bR HO_684004.out) (Kd.R_base ho1) hb)
      have n4_ := Aside0.mk (Kd.R_lower (Kd.R_new' ho0 (Kd.R_lt (bR HO_684003.out))) (below_size (by repeat (first | (with_reducible first | exact bw HB.out | refine bset ?_ (by assumption) | apply below_alloc | apply pw_below_drewN | apply below_drew1) | exact HB.out))))
      have n5_ := Aside0.mk (Kd.R_lower (Kd.R_new' ho1 (Kd.R_lt (bR HO_684004.out))) (below_size (by repeat (first | (with_reducible first | exact bw HB.out | refine bset ?_ (by assumption) | apply below_alloc | apply pw_below_drewN | apply below_drew1) | exact HB.out))))
      have n6_ := Aside0.mk (blk_below (bs BK659.out) hb)
      have n7_ := Aside0.mk (blk_below (bs BK683.out) hb)
      have n8_ := Aside0.mk (below_step (by repeat (first | (with_reducible first | exact bw HB.out | refine bset ?_ (by assumption) | apply below_alloc | apply pw_below_drewN | apply below_drew1) | exact HB.out)) hb)
      clear HO_4
      clear HO_7
      clear HO_684003
      clear HO_684004
      clear BK659
      clear BK683
      clear HB
      have HO_4 := n0_
      have HO_7 := n1_
      have HO_684003 := n2_
      have HO_684004 := n3_
      have HO694 := n4_
      have HO697 := n5_
      have BK659 := n6_
      have BK683 := n7_
      have HB := n8_
      clear n0_ n1_ n2_ n3_ n4_ n5_ n6_ n7_ n8_
      (try clear hb)
      (try clear hb2)
      (try clear hk)
      (try clear hi)
      (try clear ho0)
      (try clear ho1)
      obtain ⟨Ao42, co42, eo42⟩ := Kd.R_slice HO694.out
      (first | subst eo42 | (injection eo42 with f1_ f2_ f3_; have f4_ := f1_.symm; have f5_ := f3_.symm; clear f1_ f2_ f3_; subst f4_; subst f5_))
      obtain ⟨Ao43, co43, eo43⟩ := Kd.R_slice HO697.out
      (first | subst eo43 | (injection eo43 with f1_ f2_ f3_; have f4_ := f1_.symm; have f5_ := f3_.symm; clear f1_ f2_ f3_; subst f4_; subst f5_))
      refine hK.out _ _ ⟨(blk_cell BK683.out 0).trans rfl, (blk_cell BK683.out 1).trans rfl, (blk_cell BK683.out 2).trans rfl, (blk_cell BK683.out 3).trans rfl, (blk_cell BK683.out 4).trans rfl, (blk_cell BK659.out 0).trans rfl, (blk_cell BK659.out 1).trans rfl, (blk_cell BK659.out 2).trans rfl, (blk_cell BK659.out 3).trans rfl, (blk_cell BK659.out 4).trans rfl⟩ (fun hHeld => ?_)
      clear hK K
      refine norm_ (a' := ?_) ?_ ?_
      rotate_left
      ·show Act.put _ (some 43) _ = _
       simp only [aq_]
       rfl
      refine one_ (i := 3) (N := some 44) #[true, true, true, true, false] rfl rfl (by kernel_rfl) (by decide) (fun K hK => ?_)
      refine goes_ Try.func18 (by kernel_rfl) rfl #[.agg #[.int .i64 t674, .int .i64 t675, .int .i64 t676, .slice Ao25 t677.length co25, .slice Ao26 t680.length co26], .agg #[.int .i64 t689, .int .i64 t690, .int .i64 t691, .slice Ao42 t692.length co42, .slice Ao43 t695.length co43]] (by rfl) rfl rfl (by (try simp only [mA_]); first | done | rfl | (simp only [List.length_drop, List.length_take]; rfl)) ?_
      with_reducible refine (laws_eqDispatcher.calls kj10 t674 t675 t676 _ _ t677 _ _ t680 t689 t690 t691 _ _ t692 _ _ t695 true _ ?side1 ?side2 ?side3 ?side4 ?side5 ?side6 ?side7 ?side8 A36.out).mono ?_
      (case side1 => repeat (first | exact (Kd.R_reads' HO_684003.out).2.2 | (with_reducible refine Kd.C_alloc ?_ _) | (with_reducible refine Kd.C_drewN ?_ _) | (with_reducible refine Kd.C_drew ?_)))
      (case side2 => exact (Kd.R_reads' HO_684003.out).2.1)
      (case side3 => repeat (first | exact (Kd.R_reads' HO_684004.out).2.2 | (with_reducible refine Kd.C_alloc ?_ _) | (with_reducible refine Kd.C_drewN ?_ _) | (with_reducible refine Kd.C_drew ?_)))
      (case side4 => exact (Kd.R_reads' HO_684004.out).2.1)
      (case side5 => repeat (first | exact (Kd.R_reads' HO694.out).2.2 | (with_reducible refine Kd.C_alloc ?_ _) | (with_reducible refine Kd.C_drewN ?_ _) | (with_reducible refine Kd.C_drew ?_)))
      (case side6 => exact (Kd.R_reads' HO694.out).2.1)
      (case side7 => repeat (first | exact (Kd.R_reads' HO697.out).2.2 | (with_reducible refine Kd.C_alloc ?_ _) | (with_reducible refine Kd.C_drewN ?_ _) | (with_reducible refine Kd.C_drew ?_)))
      (case side8 => exact (Kd.R_reads' HO697.out).2.1)
      rintro e w44 ⟨rfl, hb⟩
      refine ⟨_, rfl, ?_⟩
      have n0_ := Aside0.mk (Kd.R_below (bR HO_4.out) hb)
      have n1_ := Aside0.mk (Kd.R_below (bR HO_7.out) hb)
      have n2_ := Aside0.mk (Kd.R_below (bR HO_684003.out) hb)
      have n3_ := Aside0.mk (Kd.R_below (bR HO_684004.out) hb)
      have n4_ := Aside0.mk (Kd.R_below (bR HO694.out) hb)
      have n5_ := Aside0.mk (Kd.R_below (bR HO697.out) hb)
      have n6_ := Aside0.mk (blk_below (bs BK659.out) hb)
      have n7_ := Aside0.mk (blk_below (bs BK683.out) hb)
      have n8_ := Aside0.mk (below_step (by repeat (first | (with_reducible first | exact bw HB.out | refine bset ?_ (by assumption) | apply below_alloc | apply pw_below_drewN | apply below_drew1) | exact HB.out)) hb)
      clear HO_4
      clear HO_7
      clear HO_684003
      clear HO_684004
      clear HO694
      clear HO697
      clear BK659
      clear BK683
      clear HB
      have HO_4 := n0_
      have HO_7 := n1_
      have HO_684003 := n2_
      have HO_684004 := n3_
      have HO694 := n4_
      have HO697 := n5_
      have BK659 := n6_
      have BK683 := n7_
      have HB := n8_
      clear n0_ n1_ n2_ n3_ n4_ n5_ n6_ n7_ n8_
      (try clear hb)
      (try clear hb2)
      (try clear hk)
      (try clear hi)
      refine hK.out _ _ ⟨(blk_cell BK683.out 0).trans rfl, (blk_cell BK683.out 1).trans rfl, (blk_cell BK683.out 2).trans rfl, (blk_cell BK683.out 3).trans rfl, (blk_cell BK683.out 4).trans rfl, (blk_cell BK659.out 0).trans rfl, (blk_cell BK659.out 1).trans rfl, (blk_cell BK659.out 2).trans rfl, (blk_cell BK659.out 3).trans rfl, (blk_cell BK659.out 4).trans rfl⟩ (fun hHeld => ?_)
      clear hK K
      refine norm_ (a' := ?_) ?_ ?_
      rotate_left
      ·show Act.put _ (some 44) _ = _
       simp only [aq_]
       rfl
      refine puq_ (i := 4) (N := some 45) (v := ?_) (a' := ?_) rfl rfl (by kernel_rfl) (fun _ _ _ h => h) (Or.inl ⟨by rfl, ?_⟩) ?_ ?_
      rotate_left
      ·intro w'
       go_simp
       with_reducible rfl
      rotate_left
      ·simp only [aq_]
       rfl
      refine done_ (by kernel_rfl) ?_
      have hnb45 := NB683_659.out
      have hnc45 := NB659_683.out
      have hcz46_0 := b5_0 BK683.out
      have hcz46_1 := b5_1 BK683.out
      have hcz46_2 := b5_2 BK683.out
      have hcz46_3 := b5_3 BK683.out
      have hcz46_4 := b5_4 BK683.out
      have hfz46_0 := blk_frozen BK683.out 0
      have hfz46_1 := blk_frozen BK683.out 1
      have hfz46_2 := blk_frozen BK683.out 2
      have hfz46_3 := blk_frozen BK683.out 3
      have hfz46_4 := blk_frozen BK683.out 4
      go_upto_region 14 with (first | ((with_reducible refine gate_callee (f := 19) rfl ?_); refine goesL_ (some 48) rfl rfl Try.func19 (by kernel_rfl) rfl #[.agg #[.int .i64 t674, .int .i64 t675, .int .i64 t676, .slice Ao25 t677.length co25, .slice Ao26 t680.length co26], .int .i64 1] rfl (by (try simp only [mA_]); first | done | rfl | (simp only [List.length_drop, List.length_take]; rfl)) ?_; (with_reducible refine (laws_markDispatcher.calls kj10 t674 t675 t676 (fun k_ => some k_ = (.slice Ao25 t677.length co25 : Value).ownBlock) (.slice Ao25 t677.length co25) t677 (fun k_ => some k_ = (.slice Ao26 t680.length co26 : Value).ownBlock) (.slice Ao26 t680.length co26) t680 1 t699 t700 t701 w _ ?side1 ?side2 ?side3 A38.out).mono ?_); (case side1 => repeat (first | (with_reducible first | exact HB.out | apply below_alloc | apply pw_below_drewN | apply below_drew1 | refine below_set ?_ GE659.out | refine below_set ?_ GE683.out) | exact HB.out)); (case side2 => exact Kd.R_tight rfl HO_684003.out); (case side3 => exact Kd.R_tight rfl HO_684004.out); rintro e w47 ⟨rfl, hy0, hy1, hb, hkp⟩; refine ⟨_, rfl, ?_⟩; have n0_ := Aside0.mk (Kd.R_mono (ok' := fun k_ => some k_ ≠ (v685 : Value).ownBlock) (Kd.R_keptB ((Kd.R_apart' (Kd.R_apart' HO_4.out (Kd.R_typed HO_684003.out) (by decide)) (Kd.R_typed HO_684004.out) (by decide))) hkp (fun k_ hk_ hs_ => Or.elim hs_ (fun e_ => (hk_.1.2) e_) (fun e_ => (hk_.2) e_))) (fun k_ hk_ => hk_.1.1.1)); have n1_ := Aside0.mk (Kd.R_mono (ok' := fun k_ => some k_ ≠ (v671 : Value).ownBlock) (Kd.R_keptB ((Kd.R_apart' (Kd.R_apart' HO_7.out (Kd.R_typed HO_684003.out) (by decide)) (Kd.R_typed HO_684004.out) (by decide))) hkp (fun k_ hk_ hs_ => Or.elim hs_ (fun e_ => (hk_.1.2) e_) (fun e_ => (hk_.2) e_))) (fun k_ hk_ => hk_.1.1.1)); have n2_ := Aside0.mk (Kd.R_reok rfl hy0 (fun k_ e_ => HO_684003.out.1 k_ e_)); have n3_ := Aside0.mk (Kd.R_reok rfl hy1 (fun k_ e_ => HO_684004.out.1 k_ e_)); have n4_ := Aside0.mk (blk_kept (bs BK659.out) hkp (fun hs_ => Or.elim hs_ (fun e_ => (fun e_ => (Kd.R_ne HO_684003.out BK659.out (by decide)) e_) e_) (fun e_ => (fun e_ => (Kd.R_ne HO_684004.out BK659.out (by decide)) e_) e_))); have n5_ := Aside0.mk (blk_kept (bs BK683.out) hkp (fun hs_ => Or.elim hs_ (fun e_ => (fun e_ => (Kd.R_ne HO_684003.out BK683.out (by decide)) e_) e_) (fun e_ => (fun e_ => (Kd.R_ne HO_684004.out BK683.out (by decide)) e_) e_))); have n6_ := Aside0.mk (Kd.R_mono (ok' := fun k_ => some k_ ≠ (.slice Ao25 t677.length co25 : Value).ownBlock) (Kd.R_keptB ((Kd.R_apart' HO694.out (Kd.R_typed HO_684004.out) (by decide))) hkp (fun k_ hk_ hs_ => Or.elim hs_ (fun e_ => (hk_.1.2) e_) (fun e_ => (hk_.2) e_))) (fun k_ hk_ => hk_.1.1.2)); have n7_ := Aside0.mk (Kd.R_mono (ok' := fun k_ => some k_ ≠ (.slice Ao26 t680.length co26 : Value).ownBlock) (Kd.R_keptB ((Kd.R_apart' HO697.out (Kd.R_typed HO_684003.out) (by decide))) hkp (fun k_ hk_ hs_ => Or.elim hs_ (fun e_ => (hk_.2) e_) (fun e_ => (hk_.1.2) e_))) (fun k_ hk_ => hk_.1.1.2)); have n8_ := Aside0.mk (hb); clear HO_4; clear HO_7; clear HO_684003; clear HO_684004; clear BK659; clear BK683; clear HO694; clear HO697; clear HB; have HO_4 := n0_; have HO_7 := n1_; have HO_684003 := n2_; have HO_684004 := n3_; have BK659 := n4_; have BK683 := n5_; have HO694 := n6_; have HO697 := n7_; have HB := n8_; clear n0_ n1_ n2_ n3_ n4_ n5_ n6_ n7_ n8_; (try clear hb); (try clear hkp); (try clear hy0); (try clear hy1)))
      (try simp only [Act.put, List.setIfInBounds_toArray, List.set_cons_zero, List.set_cons_succ])
      go_cut [61] (fun v61 wc => ∃ (kq : Nat) (x61_38 : Bool), v61 = .bool x61_38 ∧ Aside0 (laws_FnExactRunningJobs.j1 kq t670 t673 t684 x61_38 a0_0 a0_1 a0_2 l0_3 l0_4 = some r) ∧ Aside0 (kq ≤ kj10) ∧ Aside0 (Kd.R (Kd.int .i64) 3 wc w.heap.size (fun k_ => some k_ ≠ (v685 : Value).ownBlock) v671 t670) ∧ Aside0 (Kd.R (Kd.int .i64) 3 wc w.heap.size (fun k_ => some k_ ≠ (v671 : Value).ownBlock) v685 t684) ∧ Aside0 (Kd.R k137 137 wc w.heap.size (fun _ => True) (.slice Ao25 t677.length co25) t700) ∧ Aside0 (Kd.R k135 135 wc w.heap.size (fun _ => True) (.slice Ao26 t680.length co26) t701) ∧ Aside0 (wc.heap[gb659]? = some (.cells #[.int .i64 a0_0, .int .i64 a0_1, .int .i64 a0_2, (.slice A0_3 l0_3.length c0_3), (.slice A0_4 l0_4.length c0_4)] 59 (0, 0))) ∧ Aside0 (wc.heap[gb683]? = some (.cells #[.int .i64 t674, .int .i64 t675, .int .i64 t676, (.slice Ao25 t677.length co25), (.slice Ao26 t680.length co26)] 25 (0, 0))) ∧ Aside0 (Below w.heap.size w wc))
      case first =>
       have H := HC39.out
       clear HC39
       by_cases c48 : t699 < 0
       ·rw [if_pos c48] at H
        have c48b0 : decide (t699 < 0) = true := decide_eq_true c48
        clear c48
        (first | rw [c48b0] | (simp only [i64_w, i32_w]; rw [c48b0]) | skip)
        have H' := Aside0.mk H
        clear H
        go_wp2
        go_meet
        case rel => exact ⟨_, (true), (by first | rfl | (simp; done) | (simp [*]; done)), H', ⟨by have := HJ10.out; first | omega | exact Nat.le_refl _⟩, ⟨bR HO_4.out⟩, ⟨bR HO_7.out⟩, ⟨by (with_reducible repeat (first | apply Kd.R_alloc | apply Kd.R_drewN | apply Kd.R_drew)); exact Kd.R_mono HO_684003.out (fun _ hk => trivial)⟩, ⟨by (with_reducible repeat (first | apply Kd.R_alloc | apply Kd.R_drewN | apply Kd.R_drew)); exact Kd.R_mono HO_684004.out (fun _ hk => trivial)⟩, ⟨bs BK659.out⟩, ⟨bs BK683.out⟩, ⟨by repeat (first | (with_reducible first | exact bw HB.out | refine bset ?_ (by assumption) | apply below_alloc | apply pw_below_drewN | apply below_drew1) | exact HB.out)⟩⟩
       ·rw [if_neg c48] at H
        have c48b0 : decide (t699 < 0) = false := decide_eq_false c48
        clear c48
        (first | rw [c48b0] | (simp only [i64_w, i32_w]; rw [c48b0]) | skip)
        replace H := Option.bind_eq_some_iff.mp H
        obtain ⟨t702, A490, H⟩ := H
        replace H : (if t702 = true then (laws_FnExactRunningJobs.j1 kj10 t670 t673 t684 (t687 != t673) a0_0 a0_1 a0_2 l0_3 l0_4) else (laws_FnExactRunningJobs.j1 kj10 t670 t673 t684 true a0_0 a0_1 a0_2 l0_3 l0_4)) = some r := H
        have A49 := Aside0.mk A490
        clear A490
        by_cases c50 : t702 = true
        ·subst c50
         have H1 : (laws_FnExactRunningJobs.j1 kj10 t670 t673 t684 (t687 != t673) a0_0 a0_1 a0_2 l0_3 l0_4) = some r := by rw [if_pos rfl] at H; exact H
         clear H
         have H := H1
         clear H1
         have H' := Aside0.mk H
         clear H
         obtain ⟨Ao51, co51, eo51⟩ := Kd.R_slice HO_7.out
         subst eo51
         obtain ⟨Ao52, co52, eo52⟩ := Kd.R_slice HO_4.out
         subst eo52
         go_wp2_with (first | (go_at_call 41; (with_reducible refine (laws_eqIntS.calls kj10 _ _ t684 _ _ t670 true _ ?side1 ?side2 ?side3 ?side4 A49.out).mono ?_); (case side1 => repeat (first | exact (Kd.R_reads' HO_7.out).2.2 | (with_reducible refine Kd.C_alloc ?_ _) | (with_reducible refine Kd.C_drewN ?_ _) | (with_reducible refine Kd.C_drew ?_))); (case side2 => exact (Kd.R_reads' HO_7.out).2.1); (case side3 => repeat (first | exact (Kd.R_reads' HO_4.out).2.2 | (with_reducible refine Kd.C_alloc ?_ _) | (with_reducible refine Kd.C_drewN ?_ _) | (with_reducible refine Kd.C_drew ?_))); (case side4 => exact (Kd.R_reads' HO_4.out).2.1); rintro e w' ⟨rfl, ⟨nd, rfl⟩⟩))
         go_meet
         case rel => exact ⟨_, ((t687 != t673)), (by first | rfl | (simp; done) | (simp [*]; done)), H', ⟨by have := HJ10.out; first | omega | exact Nat.le_refl _⟩, ⟨bR HO_4.out⟩, ⟨bR HO_7.out⟩, ⟨by (with_reducible repeat (first | apply Kd.R_alloc | apply Kd.R_drewN | apply Kd.R_drew)); exact Kd.R_mono HO_684003.out (fun _ hk => trivial)⟩, ⟨by (with_reducible repeat (first | apply Kd.R_alloc | apply Kd.R_drewN | apply Kd.R_drew)); exact Kd.R_mono HO_684004.out (fun _ hk => trivial)⟩, ⟨bs BK659.out⟩, ⟨bs BK683.out⟩, ⟨by repeat (first | (with_reducible first | exact bw HB.out | refine bset ?_ (by assumption) | apply below_alloc | apply pw_below_drewN | apply below_drew1) | exact HB.out)⟩⟩
        ·replace c50 := Bool.eq_false_iff.mpr c50
         subst c50
         have H1 : (laws_FnExactRunningJobs.j1 kj10 t670 t673 t684 true a0_0 a0_1 a0_2 l0_3 l0_4) = some r := by rw [if_neg (show ¬ (false = true) by decide)] at H; exact H
         clear H
         have H := H1
         clear H1
         have H' := Aside0.mk H
         clear H
         obtain ⟨Ao53, co53, eo53⟩ := Kd.R_slice HO_7.out
         subst eo53
         obtain ⟨Ao54, co54, eo54⟩ := Kd.R_slice HO_4.out
         subst eo54
         go_wp2_with (first | (go_at_call 41; (with_reducible refine (laws_eqIntS.calls kj10 _ _ t684 _ _ t670 false _ ?side1 ?side2 ?side3 ?side4 A49.out).mono ?_); (case side1 => repeat (first | exact (Kd.R_reads' HO_7.out).2.2 | (with_reducible refine Kd.C_alloc ?_ _) | (with_reducible refine Kd.C_drewN ?_ _) | (with_reducible refine Kd.C_drew ?_))); (case side2 => exact (Kd.R_reads' HO_7.out).2.1); (case side3 => repeat (first | exact (Kd.R_reads' HO_4.out).2.2 | (with_reducible refine Kd.C_alloc ?_ _) | (with_reducible refine Kd.C_drewN ?_ _) | (with_reducible refine Kd.C_drew ?_))); (case side4 => exact (Kd.R_reads' HO_4.out).2.1); rintro e w' ⟨rfl, ⟨nd, rfl⟩⟩))
         go_meet
         case rel => exact ⟨_, (true), (by first | rfl | (simp; done) | (simp [*]; done)), H', ⟨by have := HJ10.out; first | omega | exact Nat.le_refl _⟩, ⟨bR HO_4.out⟩, ⟨bR HO_7.out⟩, ⟨by (with_reducible repeat (first | apply Kd.R_alloc | apply Kd.R_drewN | apply Kd.R_drew)); exact Kd.R_mono HO_684003.out (fun _ hk => trivial)⟩, ⟨by (with_reducible repeat (first | apply Kd.R_alloc | apply Kd.R_drewN | apply Kd.R_drew)); exact Kd.R_mono HO_684004.out (fun _ hk => trivial)⟩, ⟨bs BK659.out⟩, ⟨bs BK683.out⟩, ⟨by repeat (first | (with_reducible first | exact bw HB.out | refine bset ?_ (by assumption) | apply below_alloc | apply pw_below_drewN | apply below_drew1) | exact HB.out)⟩⟩
      case rest =>
       clear HC39
       try clear c1
       try clear c2
       try clear p2
       try clear c3
       try clear c3b0
       try clear c4
       try clear c5
       try clear c9
       try clear c18
       try clear c19
       try clear c23
       try clear c29
       try clear c34
       try clear c37
       try clear c39
       try clear c41
       try clear c44
       try clear c45
       try clear c48
       try clear c48b0
       try clear c50
       try clear hcz13_0
       try clear hcz13_1
       try clear hcz13_2
       try clear hcz13_3
       try clear hcz13_4
       try clear hcz15_0
       try clear hcz15_1
       try clear hcz15_2
       try clear hcz15_3
       try clear hcz15_4
       try clear hcz20_0
       try clear hcz20_1
       try clear hcz20_2
       try clear hcz20_3
       try clear hcz20_4
       try clear hcz24_0
       try clear hcz24_1
       try clear hcz24_2
       try clear hcz24_3
       try clear hcz24_4
       try clear hcz46_0
       try clear hcz46_1
       try clear hcz46_2
       try clear hcz46_3
       try clear hcz46_4
       try clear hcz5_0
       try clear hcz5_1
       try clear hcz5_2
       try clear hcz5_3
       try clear hcz5_4
       try clear hfz13_0
       try clear hfz13_1
       try clear hfz13_2
       try clear hfz13_3
       try clear hfz13_4
       try clear hfz15_0
       try clear hfz15_1
       try clear hfz15_2
       try clear hfz15_3
       try clear hfz15_4
       try clear hfz20_0
       try clear hfz20_1
       try clear hfz20_2
       try clear hfz20_3
       try clear hfz20_4
       try clear hfz24_0
       try clear hfz24_1
       try clear hfz24_2
       try clear hfz24_3
       try clear hfz24_4
       try clear hfz46_0
       try clear hfz46_1
       try clear hfz46_2
       try clear hfz46_3
       try clear hfz46_4
       try clear hfz5_0
       try clear hfz5_1
       try clear hfz5_2
       try clear hfz5_3
       try clear hfz5_4
       try clear p2
       obtain ⟨kq, x61_38, rfl, HA, HJ38, HO_4, HO_7, HO_684003, HO_684004, BK659, BK683, HB⟩ := hcut
       have hl684003_38 := (Kd.R_reads' HO_684003.out).1
       rw [hl684003_38] at HO_684003
       (try simp only [hl684003_38])
       (try simp only [hl684003_38] at BK659)
       (try simp only [hl684003_38] at BK683)
       (try simp only [hl684003_38] at HO_4)
       (try simp only [hl684003_38] at HO_7)
       (try simp only [hl684003_38] at HO_684004)
       have hl684004_38 := (Kd.R_reads' HO_684004.out).1
       rw [hl684004_38] at HO_684004
       (try simp only [hl684004_38])
       (try simp only [hl684004_38] at BK659)
       (try simp only [hl684004_38] at BK683)
       (try simp only [hl684004_38] at HO_4)
       (try simp only [hl684004_38] at HO_7)
       (try simp only [hl684004_38] at HO_684003)
       cases kq with
       | zero => exact absurd HA.out (by simp [laws_FnExactRunningJobs.j1])
       | succ kj38 =>
        have H := HA.out
        clear HA
        simp only [laws_FnExactRunningJobs.j1] at H
        by_cases c55 : x61_38 = true
        ·subst c55
         have H1 : (some false) = some r := by rw [if_pos rfl] at H; exact H
         clear H
         have H := H1
         clear H1
         obtain rfl := Option.some.inj H
         go_wp2
         go_ret
         exact ⟨by first | rfl | (simp [errW_none, errW_some] <;> rfl) | (simp [*, errW_none, errW_some] <;> rfl), by repeat (first | (with_reducible first | exact bw HB.out | refine bset ?_ (by assumption) | apply below_alloc | apply pw_below_drewN | apply below_drew1) | exact HB.out)⟩
        ·replace c55 := Bool.eq_false_iff.mpr c55
         subst c55
         have H1 : ((laws_markIntS.f kj38 t684 1).bind fun bt703 => ((laws_heldIntS.f kj38 bt703.2 1).bind fun t705 => (if t705 < 0 then (some false) else (if t705 = bt703.1 then ((laws_toDispatcher.f kj38 a0_0 a0_1 a0_2 l0_3 l0_4).bind fun bt706 => ((impl_RunningJobs.f kj38 bt706.1 bt706.2.1 bt706.2.2.1 bt706.2.2.2.1 bt706.2.2.2.2).bind fun bt715 => ((laws_eqIntS.f kj38 bt715.1 t670).bind fun t719 => (if t719 = true then (laws_FnExactRunningJobs.j2 kj38 bt703.2 bt703.1 (bt715.2 != t673)) else (laws_FnExactRunningJobs.j2 kj38 bt703.2 bt703.1 true))))) else (some false))))) = some r := by rw [if_neg (show ¬ (false = true) by decide)] at H; exact H
         clear H
         have H := H1
         clear H1
         replace H := Option.bind_eq_some_iff.mp H
         obtain ⟨⟨t703, t704⟩, A560, H⟩ := H
         replace H : ((laws_heldIntS.f kj38 t704 1).bind fun t705 => (if t705 < 0 then (some false) else (if t705 = t703 then ((laws_toDispatcher.f kj38 a0_0 a0_1 a0_2 l0_3 l0_4).bind fun bt706 => ((impl_RunningJobs.f kj38 bt706.1 bt706.2.1 bt706.2.2.1 bt706.2.2.2.1 bt706.2.2.2.2).bind fun bt715 => ((laws_eqIntS.f kj38 bt715.1 t670).bind fun t719 => (if t719 = true then (laws_FnExactRunningJobs.j2 kj38 t704 t703 (bt715.2 != t673)) else (laws_FnExactRunningJobs.j2 kj38 t704 t703 true))))) else (some false)))) = some r := H
         have A56 := Aside0.mk A560
         clear A560
         replace H := Option.bind_eq_some_iff.mp H
         obtain ⟨t705, A570, H⟩ := H
         replace H : (if t705 < 0 then (some false) else (if t705 = t703 then ((laws_toDispatcher.f kj38 a0_0 a0_1 a0_2 l0_3 l0_4).bind fun bt706 => ((impl_RunningJobs.f kj38 bt706.1 bt706.2.1 bt706.2.2.1 bt706.2.2.2.1 bt706.2.2.2.2).bind fun bt715 => ((laws_eqIntS.f kj38 bt715.1 t670).bind fun t719 => (if t719 = true then (laws_FnExactRunningJobs.j2 kj38 t704 t703 (bt715.2 != t673)) else (laws_FnExactRunningJobs.j2 kj38 t704 t703 true))))) else (some false))) = some r := H
         have A57 := Aside0.mk A570
         clear A570
         by_cases c58 : t705 < 0
         ·rw [if_pos c58] at H
          have c58b0 : decide (t705 < 0) = true := decide_eq_true c58
          clear c58
          obtain rfl := Option.some.inj H
          obtain ⟨Ao59, co59, eo59⟩ := Kd.R_slice HO_7.out
          subst eo59
          go_wp2_with (first | ((with_reducible refine gate_callee (f := 42) rfl ?_); refine goesL_ (some 64) rfl rfl Try.func42 (by kernel_rfl) rfl #[.slice Ao59 t684.length co59, .int .i64 1] rfl (by (try simp only [mA_]); first | done | rfl | (simp only [List.length_drop, List.length_take]; rfl)) ?_; (with_reducible refine (laws_markIntS.calls kj38 (fun k_ => some k_ = (.slice Ao59 t684.length co59 : Value).ownBlock) (.slice Ao59 t684.length co59) t684 1 t703 t704 w _ ?side1 ?side2 A56.out).mono ?_); (case side1 => repeat (first | (with_reducible first | exact HB.out | apply below_alloc | apply pw_below_drewN | apply below_drew1 | refine below_set ?_ GE659.out | refine below_set ?_ GE683.out) | exact HB.out)); (case side2 => exact Kd.R_tight rfl HO_7.out); rintro e w60 ⟨rfl, hy0, hb, hkp⟩; refine ⟨_, rfl, ?_⟩; have n0_ := Aside0.mk (Kd.R_mono (ok' := fun k_ => some k_ ≠ (.slice Ao59 t684.length co59 : Value).ownBlock) (Kd.R_keptB (HO_4.out) hkp (fun k_ hk_ hs_ => (hk_) hs_)) (fun k_ hk_ => hk_.1)); have n1_ := Aside0.mk (Kd.R_reok rfl hy0 (fun k_ e_ => HO_7.out.1 k_ e_)); have n2_ := Aside0.mk (Kd.R_mono (ok' := fun k_ => True) (Kd.R_keptB ((Kd.R_apart' HO_684003.out (Kd.R_typed HO_7.out) (by decide))) hkp (fun k_ hk_ hs_ => (hk_.2) hs_)) (fun k_ hk_ => trivial)); have n3_ := Aside0.mk (Kd.R_mono (ok' := fun k_ => True) (Kd.R_keptB ((Kd.R_apart' HO_684004.out (Kd.R_typed HO_7.out) (by decide))) hkp (fun k_ hk_ hs_ => (hk_.2) hs_)) (fun k_ hk_ => trivial)); have n4_ := Aside0.mk (blk_kept (bs BK659.out) hkp (fun hs_ => (fun e_ => (Kd.R_ne HO_7.out BK659.out (by decide)) e_) hs_)); have n5_ := Aside0.mk (blk_kept (bs BK683.out) hkp (fun hs_ => (fun e_ => (Kd.R_ne HO_7.out BK683.out (by decide)) e_) hs_)); have n6_ := Aside0.mk (hb); clear HO_4; clear HO_7; clear HO_684003; clear HO_684004; clear BK659; clear BK683; clear HB; have HO_4 := n0_; have HO_7 := n1_; have HO_684003 := n2_; have HO_684004 := n3_; have BK659 := n4_; have BK683 := n5_; have HB := n6_; clear n0_ n1_ n2_ n3_ n4_ n5_ n6_; (try clear hb); (try clear hkp); (try clear hy0)) | ((with_reducible refine gate_callee (f := 43) rfl ?_); refine goesL_ (some 67) rfl rfl Try.func43 (by kernel_rfl) rfl #[.slice Ao59 t704.length co59, .int .i64 1] rfl (by (try simp only [mA_]); first | done | (rw [show t704.length = t684.length from (Kd.R_reads' HO_7.out).1.symm] <;> rfl) | rfl | (simp only [List.length_drop, List.length_take]; rfl)) ?_; (with_reducible refine (laws_heldIntS.calls kj38 _ _ t704 1 t705 _ ?side1 ?side2 A57.out).mono ?_); (case side1 => repeat (first | exact (Kd.R_reads' HO_7.out).2.2 | (with_reducible refine Kd.C_alloc ?_ _) | (with_reducible refine Kd.C_drewN ?_ _) | (with_reducible refine Kd.C_drew ?_))); (case side2 => rw [show t704.length = t684.length from (Kd.R_reads' HO_7.out).1.symm]; exact (Kd.R_reads' HO_7.out).2.1); rintro e w' ⟨rfl, ⟨nd, rfl⟩⟩; refine ⟨_, rfl, ?_⟩))
          go_ret
          exact ⟨by first | rfl | (simp [errW_none, errW_some] <;> rfl) | (simp [*, errW_none, errW_some] <;> rfl), by repeat (first | (with_reducible first | exact bw HB.out | refine bset ?_ (by assumption) | apply below_alloc | apply pw_below_drewN | apply below_drew1) | exact HB.out)⟩
         ·rw [if_neg c58] at H
          have c58b0 : decide (t705 < 0) = false := decide_eq_false c58
          clear c58
          by_cases c61 : t705 = t703
          ·rw [if_pos c61] at H
           have c61b0 : (t705 == t703) = true := beq_iff_eq.mpr c61
           have c61b1 : (t705 != t703) = false := bne_eq_false_iff_eq.mpr c61
           clear c61
           replace H := Option.bind_eq_some_iff.mp H
           obtain ⟨⟨t706, t707, t708, t709, t712⟩, A620, H⟩ := H
           replace H : ((impl_RunningJobs.f kj38 t706 t707 t708 t709 t712).bind fun bt715 => ((laws_eqIntS.f kj38 bt715.1 t670).bind fun t719 => (if t719 = true then (laws_FnExactRunningJobs.j2 kj38 t704 t703 (bt715.2 != t673)) else (laws_FnExactRunningJobs.j2 kj38 t704 t703 true)))) = some r := H
           have A62 := Aside0.mk A620
           clear A620
           replace H := Option.bind_eq_some_iff.mp H
           obtain ⟨⟨t715, t718⟩, A630, H⟩ := H
           replace H : ((laws_eqIntS.f kj38 t715 t670).bind fun t719 => (if t719 = true then (laws_FnExactRunningJobs.j2 kj38 t704 t703 (t718 != t673)) else (laws_FnExactRunningJobs.j2 kj38 t704 t703 true))) = some r := H
           have A63 := Aside0.mk A630
           clear A630
           have HC64 := Aside0.mk H
           clear H
           obtain ⟨Ao65, co65, eo65⟩ := Kd.R_slice HO_7.out
           subst eo65
           go_upto_region 25 with (first | ((with_reducible refine gate_callee (f := 42) rfl ?_); refine goesL_ (some 64) rfl rfl Try.func42 (by kernel_rfl) rfl #[.slice Ao65 t684.length co65, .int .i64 1] rfl (by (try simp only [mA_]); first | done | rfl | (simp only [List.length_drop, List.length_take]; rfl)) ?_; (with_reducible refine (laws_markIntS.calls kj38 (fun k_ => some k_ = (.slice Ao65 t684.length co65 : Value).ownBlock) (.slice Ao65 t684.length co65) t684 1 t703 t704 w _ ?side1 ?side2 A56.out).mono ?_); (case side1 => repeat (first | (with_reducible first | exact HB.out | apply below_alloc | apply pw_below_drewN | apply below_drew1 | refine below_set ?_ GE659.out | refine below_set ?_ GE683.out) | exact HB.out)); (case side2 => exact Kd.R_tight rfl HO_7.out); rintro e w66 ⟨rfl, hy0, hb, hkp⟩; refine ⟨_, rfl, ?_⟩; have n0_ := Aside0.mk (Kd.R_mono (ok' := fun k_ => some k_ ≠ (.slice Ao65 t684.length co65 : Value).ownBlock) (Kd.R_keptB (HO_4.out) hkp (fun k_ hk_ hs_ => (hk_) hs_)) (fun k_ hk_ => hk_.1)); have n1_ := Aside0.mk (Kd.R_reok rfl hy0 (fun k_ e_ => HO_7.out.1 k_ e_)); have n2_ := Aside0.mk (Kd.R_mono (ok' := fun k_ => True) (Kd.R_keptB ((Kd.R_apart' HO_684003.out (Kd.R_typed HO_7.out) (by decide))) hkp (fun k_ hk_ hs_ => (hk_.2) hs_)) (fun k_ hk_ => trivial)); have n3_ := Aside0.mk (Kd.R_mono (ok' := fun k_ => True) (Kd.R_keptB ((Kd.R_apart' HO_684004.out (Kd.R_typed HO_7.out) (by decide))) hkp (fun k_ hk_ hs_ => (hk_.2) hs_)) (fun k_ hk_ => trivial)); have n4_ := Aside0.mk (blk_kept (bs BK659.out) hkp (fun hs_ => (fun e_ => (Kd.R_ne HO_7.out BK659.out (by decide)) e_) hs_)); have n5_ := Aside0.mk (blk_kept (bs BK683.out) hkp (fun hs_ => (fun e_ => (Kd.R_ne HO_7.out BK683.out (by decide)) e_) hs_)); have n6_ := Aside0.mk (hb); clear HO_4; clear HO_7; clear HO_684003; clear HO_684004; clear BK659; clear BK683; clear HB; have HO_4 := n0_; have HO_7 := n1_; have HO_684003 := n2_; have HO_684004 := n3_; have BK659 := n4_; have BK683 := n5_; have HB := n6_; clear n0_ n1_ n2_ n3_ n4_ n5_ n6_; (try clear hb); (try clear hkp); (try clear hy0)) | ((with_reducible refine gate_callee (f := 43) rfl ?_); refine goesL_ (some 67) rfl rfl Try.func43 (by kernel_rfl) rfl #[.slice Ao65 t704.length co65, .int .i64 1] rfl (by (try simp only [mA_]); first | done | (rw [show t704.length = t684.length from (Kd.R_reads' HO_7.out).1.symm] <;> rfl) | rfl | (simp only [List.length_drop, List.length_take]; rfl)) ?_; (with_reducible refine (laws_heldIntS.calls kj38 _ _ t704 1 t705 _ ?side1 ?side2 A57.out).mono ?_); (case side1 => repeat (first | exact (Kd.R_reads' HO_7.out).2.2 | (with_reducible refine Kd.C_alloc ?_ _) | (with_reducible refine Kd.C_drewN ?_ _) | (with_reducible refine Kd.C_drew ?_))); (case side2 => rw [show t704.length = t684.length from (Kd.R_reads' HO_7.out).1.symm]; exact (Kd.R_reads' HO_7.out).2.1); rintro e w' ⟨rfl, ⟨nd, rfl⟩⟩; refine ⟨_, rfl, ?_⟩; have hnb67 := NB659_683.out; have hnc67 := NB683_659.out; have hcz68_0 := b5_0 BK659.out; have hcz68_1 := b5_1 BK659.out; have hcz68_2 := b5_2 BK659.out; have hcz68_3 := b5_3 BK659.out; have hcz68_4 := b5_4 BK659.out; have hfz68_0 := blk_frozen BK659.out 0; have hfz68_1 := blk_frozen BK659.out 1; have hfz68_2 := blk_frozen BK659.out 2; have hfz68_3 := blk_frozen BK659.out 3; have hfz68_4 := blk_frozen BK659.out 4) | ((with_reducible refine gate_callee (f := 39) rfl ?_); refine goesL_ (some 75) rfl rfl Try.func39 (by kernel_rfl) rfl #[.agg #[.int .i64 a0_0, .int .i64 a0_1, .int .i64 a0_2, .slice A0_3 l0_3.length c0_3, .slice A0_4 l0_4.length c0_4]] rfl (by (try simp only [mA_]); first | done | rfl | (simp only [List.length_drop, List.length_take]; rfl)) ?_; (with_reducible refine (laws_toDispatcher.calls kj38 a0_0 a0_1 a0_2 _ _ l0_3 _ _ l0_4 t706 t707 t708 t709 t712 _ ?side1 ?side2 ?side3 ?side4 A62.out).mono ?_); (case side1 => repeat (first | exact (Kd.C_below HR0_3.out (by repeat (first | (with_reducible first | exact bw HB.out | refine bset ?_ (by assumption) | apply below_alloc | apply pw_below_drewN | apply below_drew1) | exact HB.out))) | (with_reducible refine Kd.C_alloc ?_ _) | (with_reducible refine Kd.C_drewN ?_ _) | (with_reducible refine Kd.C_drew ?_))); (case side2 => exact HC0_3.out); (case side3 => repeat (first | exact (Kd.C_below HR0_4.out (by repeat (first | (with_reducible first | exact bw HB.out | refine bset ?_ (by assumption) | apply below_alloc | apply pw_below_drewN | apply below_drew1) | exact HB.out))) | (with_reducible refine Kd.C_alloc ?_ _) | (with_reducible refine Kd.C_drewN ?_ _) | (with_reducible refine Kd.C_drew ?_))); (case side4 => exact HC0_4.out); rintro e w69 ⟨v710, v713, rfl, ho0, ho1, hb⟩; refine ⟨_, rfl, ?_⟩; have n0_ := Aside0.mk (Kd.R_below (bR HO_4.out) hb); have n1_ := Aside0.mk (Kd.R_below (bR HO_7.out) hb); have n2_ := Aside0.mk (Kd.R_elder' (bR HO_684003.out) (Kd.R_base ho0) hb); have n3_ := Aside0.mk (Kd.R_elder' (bR HO_684004.out) (Kd.R_base ho1) hb); have n4_ := Aside0.mk (Kd.R_lower (Kd.R_new' ho0 (Kd.R_lt (bR HO_684003.out))) (below_size (by repeat (first | (with_reducible first | exact bw HB.out | refine bset ?_ (by assumption) | apply below_alloc | apply pw_below_drewN | apply below_drew1) | exact HB.out)))); have n5_ := Aside0.mk (Kd.R_lower (Kd.R_new' ho1 (Kd.R_lt (bR HO_684004.out))) (below_size (by repeat (first | (with_reducible first | exact bw HB.out | refine bset ?_ (by assumption) | apply below_alloc | apply pw_below_drewN | apply below_drew1) | exact HB.out)))); have n6_ := Aside0.mk (blk_below (bs BK659.out) hb); have n7_ := Aside0.mk (blk_below (bs BK683.out) hb); have n8_ := Aside0.mk (below_step (by repeat (first | (with_reducible first | exact bw HB.out | refine bset ?_ (by assumption) | apply below_alloc | apply pw_below_drewN | apply below_drew1) | exact HB.out)) hb); clear HO_4; clear HO_7; clear HO_684003; clear HO_684004; clear BK659; clear BK683; clear HB; have HO_4 := n0_; have HO_7 := n1_; have HO_684003 := n2_; have HO_684004 := n3_; have HO711 := n4_; have HO714 := n5_; have BK659 := n6_; have BK683 := n7_; have HB := n8_; clear n0_ n1_ n2_ n3_ n4_ n5_ n6_ n7_ n8_; (try clear hb); (try clear hb2); (try clear hk); (try clear hi); (try clear ho0); (try clear ho1); obtain ⟨Ao70, co70, eo70⟩ := Kd.R_slice HO711.out; subst eo70; obtain ⟨Ao71, co71, eo71⟩ := Kd.R_slice HO714.out; subst eo71) | ((with_reducible refine gate_callee (f := 45) rfl ?_); refine goesL_ (some 76) rfl rfl Try.func45 (by kernel_rfl) rfl #[.agg #[.int .i64 t706, .int .i64 t707, .int .i64 t708, .slice Ao70 t709.length co70, .slice Ao71 t712.length co71]] rfl (by (try simp only [mA_]); first | done | rfl | (simp only [List.length_drop, List.length_take]; rfl)) ?_; (with_reducible refine (impl_RunningJobs.calls kj38 t706 t707 t708 _ _ t709 _ _ t712 t715 t718 _ ?side1 ?side2 ?side3 ?side4 A63.out).mono ?_); (case side1 => repeat (first | exact (Kd.R_reads' HO711.out).2.2 | (with_reducible refine Kd.C_alloc ?_ _) | (with_reducible refine Kd.C_drewN ?_ _) | (with_reducible refine Kd.C_drew ?_))); (case side2 => exact (Kd.R_reads' HO711.out).2.1); (case side3 => repeat (first | exact (Kd.R_reads' HO714.out).2.2 | (with_reducible refine Kd.C_alloc ?_ _) | (with_reducible refine Kd.C_drewN ?_ _) | (with_reducible refine Kd.C_drew ?_))); (case side4 => exact (Kd.R_reads' HO714.out).2.1); rintro e w72 ⟨v716, rfl, ho0, hb⟩; refine ⟨_, rfl, ?_⟩; have n0_ := Aside0.mk (Kd.R_elder' (bR HO_4.out) (Kd.R_base ho0) hb); have n1_ := Aside0.mk (Kd.R_elder' (bR HO_7.out) (Kd.R_base ho0) hb); have n2_ := Aside0.mk (Kd.R_below (bR HO_684003.out) hb); have n3_ := Aside0.mk (Kd.R_below (bR HO_684004.out) hb); have n4_ := Aside0.mk (Kd.R_below (bR HO711.out) hb); have n5_ := Aside0.mk (Kd.R_below (bR HO714.out) hb); have n6_ := Aside0.mk (Kd.R_lower (Kd.R_new' (Kd.R_new' ho0 (Kd.R_lt (bR HO_4.out))) (Kd.R_lt (bR HO_7.out))) (below_size (by repeat (first | (with_reducible first | exact bw HB.out | refine bset ?_ (by assumption) | apply below_alloc | apply pw_below_drewN | apply below_drew1) | exact HB.out)))); have n7_ := Aside0.mk (blk_below (bs BK659.out) hb); have n8_ := Aside0.mk (blk_below (bs BK683.out) hb); have n9_ := Aside0.mk (below_step (by repeat (first | (with_reducible first | exact bw HB.out | refine bset ?_ (by assumption) | apply below_alloc | apply pw_below_drewN | apply below_drew1) | exact HB.out)) hb); clear HO_4; clear HO_7; clear HO_684003; clear HO_684004; clear HO711; clear HO714; clear BK659; clear BK683; clear HB; have HO_4 := n0_; have HO_7 := n1_; have HO_684003 := n2_; have HO_684004 := n3_; have HO711 := n4_; have HO714 := n5_; have HO717 := n6_; have BK659 := n7_; have BK683 := n8_; have HB := n9_; clear n0_ n1_ n2_ n3_ n4_ n5_ n6_ n7_ n8_ n9_; (try clear hb); (try clear hb2); (try clear hk); (try clear hi); (try clear ho0)))
           (try simp only [Act.put, List.setIfInBounds_toArray, List.set_cons_zero, List.set_cons_succ])
           go_cut [87] (fun v87 wc => ∃ (kq : Nat) (x87_63 : Bool), v87 = .bool x87_63 ∧ Aside0 (laws_FnExactRunningJobs.j2 kq t704 t703 x87_63 = some r) ∧ Aside0 (kq ≤ kj38) ∧ Aside0 (Kd.R (Kd.int .i64) 3 wc w.heap.size (fun _ => True) (.slice Ao65 t684.length co65) t704) ∧ Aside0 (Kd.R k137 137 wc w.heap.size (fun _ => True) (.slice Ao25 t700.length co25) t700) ∧ Aside0 (Kd.R k135 135 wc w.heap.size (fun _ => True) (.slice Ao26 t701.length co26) t701) ∧ Aside0 (wc.heap[gb659]? = some (.cells #[.int .i64 a0_0, .int .i64 a0_1, .int .i64 a0_2, (.slice A0_3 l0_3.length c0_3), (.slice A0_4 l0_4.length c0_4)] 59 (0, 0))) ∧ Aside0 (wc.heap[gb683]? = some (.cells #[.int .i64 t674, .int .i64 t675, .int .i64 t676, (.slice Ao25 t700.length co25), (.slice Ao26 t701.length co26)] 25 (0, 0))) ∧ Aside0 (Below w.heap.size w wc))
           case first =>
            have H := HC64.out
            clear HC64
            replace H := Option.bind_eq_some_iff.mp H
            obtain ⟨t719, A730, H⟩ := H
            replace H : (if t719 = true then (laws_FnExactRunningJobs.j2 kj38 t704 t703 (t718 != t673)) else (laws_FnExactRunningJobs.j2 kj38 t704 t703 true)) = some r := H
            have A73 := Aside0.mk A730
            clear A730
            by_cases c74 : t719 = true
            ·subst c74
             have H1 : (laws_FnExactRunningJobs.j2 kj38 t704 t703 (t718 != t673)) = some r := by rw [if_pos rfl] at H; exact H
             clear H
             have H := H1
             clear H1
             have H' := Aside0.mk H
             clear H
             obtain ⟨Ao75, co75, eo75⟩ := Kd.R_slice HO717.out
             subst eo75
             obtain ⟨Ao76, co76, eo76⟩ := Kd.R_slice HO_4.out
             subst eo76
             go_wp2_with (first | ((with_reducible refine gate_callee (f := 41) rfl ?_); refine goesL_ (some 81) rfl rfl Try.func41 (by kernel_rfl) rfl #[.slice Ao75 t715.length co75, .slice Ao76 t670.length co76] rfl (by (try simp only [mA_]); first | done | rfl | (simp only [List.length_drop, List.length_take]; rfl)) ?_; (with_reducible refine (laws_eqIntS.calls kj38 _ _ t715 _ _ t670 true _ ?side1 ?side2 ?side3 ?side4 A73.out).mono ?_); (case side1 => repeat (first | exact (Kd.R_reads' HO717.out).2.2 | (with_reducible refine Kd.C_alloc ?_ _) | (with_reducible refine Kd.C_drewN ?_ _) | (with_reducible refine Kd.C_drew ?_))); (case side2 => exact (Kd.R_reads' HO717.out).2.1); (case side3 => repeat (first | exact (Kd.R_reads' HO_4.out).2.2 | (with_reducible refine Kd.C_alloc ?_ _) | (with_reducible refine Kd.C_drewN ?_ _) | (with_reducible refine Kd.C_drew ?_))); (case side4 => exact (Kd.R_reads' HO_4.out).2.1); rintro e w' ⟨rfl, ⟨nd, rfl⟩⟩; refine ⟨_, rfl, ?_⟩))
             go_meet
             case rel => exact ⟨_, ((t718 != t673)), (by first | rfl | (simp; done) | (simp [*]; done)), H', ⟨by have := HJ10.out; have := HJ38.out; first | omega | exact Nat.le_refl _⟩, ⟨by (try simp only [hl684003_38]); (try simp only [hl684004_38]); (with_reducible repeat (first | apply Kd.R_alloc | apply Kd.R_drewN | apply Kd.R_drew)); exact Kd.R_mono HO_7.out (fun _ hk => trivial)⟩, ⟨by (try simp only [hl684003_38]); (try simp only [hl684004_38]); (with_reducible repeat (first | apply Kd.R_alloc | apply Kd.R_drewN | apply Kd.R_drew)); exact Kd.R_mono HO_684003.out (fun _ hk => trivial)⟩, ⟨by (try simp only [hl684003_38]); (try simp only [hl684004_38]); (with_reducible repeat (first | apply Kd.R_alloc | apply Kd.R_drewN | apply Kd.R_drew)); exact Kd.R_mono HO_684004.out (fun _ hk => trivial)⟩, ⟨by (try simp only [hl684003_38]); (try simp only [hl684004_38]); exact bs BK659.out⟩, ⟨by (try simp only [hl684003_38]); (try simp only [hl684004_38]); exact bs BK683.out⟩, ⟨by repeat (first | (with_reducible first | exact bw HB.out | refine bset ?_ (by assumption) | apply below_alloc | apply pw_below_drewN | apply below_drew1) | exact HB.out)⟩⟩
            ·replace c74 := Bool.eq_false_iff.mpr c74
             subst c74
             have H1 : (laws_FnExactRunningJobs.j2 kj38 t704 t703 true) = some r := by rw [if_neg (show ¬ (false = true) by decide)] at H; exact H
             clear H
             have H := H1
             clear H1
             have H' := Aside0.mk H
             clear H
             obtain ⟨Ao77, co77, eo77⟩ := Kd.R_slice HO717.out
             subst eo77
             obtain ⟨Ao78, co78, eo78⟩ := Kd.R_slice HO_4.out
             subst eo78
             go_wp2_with (first | ((with_reducible refine gate_callee (f := 41) rfl ?_); refine goesL_ (some 81) rfl rfl Try.func41 (by kernel_rfl) rfl #[.slice Ao77 t715.length co77, .slice Ao78 t670.length co78] rfl (by (try simp only [mA_]); first | done | rfl | (simp only [List.length_drop, List.length_take]; rfl)) ?_; (with_reducible refine (laws_eqIntS.calls kj38 _ _ t715 _ _ t670 false _ ?side1 ?side2 ?side3 ?side4 A73.out).mono ?_); (case side1 => repeat (first | exact (Kd.R_reads' HO717.out).2.2 | (with_reducible refine Kd.C_alloc ?_ _) | (with_reducible refine Kd.C_drewN ?_ _) | (with_reducible refine Kd.C_drew ?_))); (case side2 => exact (Kd.R_reads' HO717.out).2.1); (case side3 => repeat (first | exact (Kd.R_reads' HO_4.out).2.2 | (with_reducible refine Kd.C_alloc ?_ _) | (with_reducible refine Kd.C_drewN ?_ _) | (with_reducible refine Kd.C_drew ?_))); (case side4 => exact (Kd.R_reads' HO_4.out).2.1); rintro e w' ⟨rfl, ⟨nd, rfl⟩⟩; refine ⟨_, rfl, ?_⟩))
             go_meet
             case rel => exact ⟨_, (true), (by first | rfl | (simp; done) | (simp [*]; done)), H', ⟨by have := HJ10.out; have := HJ38.out; first | omega | exact Nat.le_refl _⟩, ⟨by (try simp only [hl684003_38]); (try simp only [hl684004_38]); (with_reducible repeat (first | apply Kd.R_alloc | apply Kd.R_drewN | apply Kd.R_drew)); exact Kd.R_mono HO_7.out (fun _ hk => trivial)⟩, ⟨by (try simp only [hl684003_38]); (try simp only [hl684004_38]); (with_reducible repeat (first | apply Kd.R_alloc | apply Kd.R_drewN | apply Kd.R_drew)); exact Kd.R_mono HO_684003.out (fun _ hk => trivial)⟩, ⟨by (try simp only [hl684003_38]); (try simp only [hl684004_38]); (with_reducible repeat (first | apply Kd.R_alloc | apply Kd.R_drewN | apply Kd.R_drew)); exact Kd.R_mono HO_684004.out (fun _ hk => trivial)⟩, ⟨by (try simp only [hl684003_38]); (try simp only [hl684004_38]); exact bs BK659.out⟩, ⟨by (try simp only [hl684003_38]); (try simp only [hl684004_38]); exact bs BK683.out⟩, ⟨by repeat (first | (with_reducible first | exact bw HB.out | refine bset ?_ (by assumption) | apply below_alloc | apply pw_below_drewN | apply below_drew1) | exact HB.out)⟩⟩
           case rest =>
            clear HC64
            try clear c1
            try clear c2
            try clear p2
            try clear c3
            try clear c3b0
            try clear c4
            try clear c5
            try clear c6
            try clear c7
            try clear c9
            try clear c18
            try clear c19
            try clear c23
            try clear c29
            try clear c34
            try clear c37
            try clear c39
            try clear c41
            try clear c42
            try clear c43
            try clear c44
            try clear c45
            try clear c48
            try clear c48b0
            try clear c50
            try clear c55
            try clear c58
            try clear c58b0
            try clear c61
            try clear c61b0
            try clear c61b1
            try clear c67
            try clear c74
            try clear hcz13_0
            try clear hcz13_1
            try clear hcz13_2
            try clear hcz13_3
            try clear hcz13_4
            try clear hcz15_0
            try clear hcz15_1
            try clear hcz15_2
            try clear hcz15_3
            try clear hcz15_4
            try clear hcz20_0
            try clear hcz20_1
            try clear hcz20_2
            try clear hcz20_3
            try clear hcz20_4
            try clear hcz24_0
            try clear hcz24_1
            try clear hcz24_2
            try clear hcz24_3
            try clear hcz24_4
            try clear hcz46_0
            try clear hcz46_1
            try clear hcz46_2
            try clear hcz46_3
            try clear hcz46_4
            try clear hcz5_0
            try clear hcz5_1
            try clear hcz5_2
            try clear hcz5_3
            try clear hcz5_4
            try clear hcz68_0
            try clear hcz68_1
            try clear hcz68_2
            try clear hcz68_3
            try clear hcz68_4
            try clear hfz13_0
            try clear hfz13_1
            try clear hfz13_2
            try clear hfz13_3
            try clear hfz13_4
            try clear hfz15_0
            try clear hfz15_1
            try clear hfz15_2
            try clear hfz15_3
            try clear hfz15_4
            try clear hfz20_0
            try clear hfz20_1
            try clear hfz20_2
            try clear hfz20_3
            try clear hfz20_4
            try clear hfz24_0
            try clear hfz24_1
            try clear hfz24_2
            try clear hfz24_3
            try clear hfz24_4
            try clear hfz46_0
            try clear hfz46_1
            try clear hfz46_2
            try clear hfz46_3
            try clear hfz46_4
            try clear hfz5_0
            try clear hfz5_1
            try clear hfz5_2
            try clear hfz5_3
            try clear hfz5_4
            try clear hfz68_0
            try clear hfz68_1
            try clear hfz68_2
            try clear hfz68_3
            try clear hfz68_4
            try clear p2
            obtain ⟨kq, x87_63, rfl, HA, HJ63, HO_7, HO_684003, HO_684004, BK659, BK683, HB⟩ := hcut
            have hl7_63 := (Kd.R_reads' HO_7.out).1
            rw [hl7_63] at HO_7
            (try simp only [hl7_63])
            (try simp only [hl7_63] at BK659)
            (try simp only [hl7_63] at BK683)
            (try simp only [hl7_63] at HO_684003)
            (try simp only [hl7_63] at HO_684004)
            cases kq with
            | zero => exact absurd HA.out (by simp [laws_FnExactRunningJobs.j2])
            | succ kj63 =>
             have H := HA.out
             clear HA
             simp only [laws_FnExactRunningJobs.j2] at H
             by_cases c79 : x87_63 = true
             ·subst c79
              have H1 : (some false) = some r := by rw [if_pos rfl] at H; exact H
              clear H
              have H := H1
              clear H1
              obtain rfl := Option.some.inj H
              go_wp2
              go_ret
              exact ⟨by first | rfl | (simp [errW_none, errW_some] <;> rfl) | (simp [*, errW_none, errW_some] <;> rfl), by repeat (first | (with_reducible first | exact bw HB.out | refine bset ?_ (by assumption) | apply below_alloc | apply pw_below_drewN | apply below_drew1) | exact HB.out)⟩
             ·replace c79 := Bool.eq_false_iff.mpr c79
              subst c79
              have H1 : ((laws_heldIntS.f kj63 t704 1).bind fun t720 => (if t720 < 0 then (some false) else (if t720 = t703 then (some true) else (some false)))) = some r := by rw [if_neg (show ¬ (false = true) by decide)] at H; exact H
              clear H
              have H := H1
              clear H1
              replace H := Option.bind_eq_some_iff.mp H
              obtain ⟨t720, A800, H⟩ := H
              replace H : (if t720 < 0 then (some false) else (if t720 = t703 then (some true) else (some false))) = some r := H
              have A80 := Aside0.mk A800
              clear A800
              by_cases c81 : t720 < 0
              ·rw [if_pos c81] at H
               have c81b0 : decide (t720 < 0) = true := decide_eq_true c81
               clear c81
               obtain rfl := Option.some.inj H
               go_wp2_with (first | ((with_reducible refine gate_callee (f := 43) rfl ?_); refine goesL_ (some 90) rfl rfl Try.func43 (by kernel_rfl) rfl #[.slice Ao65 t704.length co65, .int .i64 1] rfl (by (try simp only [mA_]); first | done | rfl | (simp only [List.length_drop, List.length_take]; rfl)) ?_; (with_reducible refine (laws_heldIntS.calls kj63 _ _ t704 1 t720 _ ?side1 ?side2 A80.out).mono ?_); (case side1 => repeat (first | exact (Kd.R_reads' HO_7.out).2.2 | (with_reducible refine Kd.C_alloc ?_ _) | (with_reducible refine Kd.C_drewN ?_ _) | (with_reducible refine Kd.C_drew ?_))); (case side2 => exact (Kd.R_reads' HO_7.out).2.1); rintro e w' ⟨rfl, ⟨nd, rfl⟩⟩; refine ⟨_, rfl, ?_⟩))
               go_ret
               exact ⟨by first | rfl | (simp [errW_none, errW_some] <;> rfl) | (simp [*, errW_none, errW_some] <;> rfl), by repeat (first | (with_reducible first | exact bw HB.out | refine bset ?_ (by assumption) | apply below_alloc | apply pw_below_drewN | apply below_drew1) | exact HB.out)⟩
              ·rw [if_neg c81] at H
               have c81b0 : decide (t720 < 0) = false := decide_eq_false c81
               clear c81
               by_cases c82 : t720 = t703
               ·rw [if_pos c82] at H
                have c82b0 : (t720 == t703) = true := beq_iff_eq.mpr c82
                have c82b1 : (t720 != t703) = false := bne_eq_false_iff_eq.mpr c82
                clear c82
                obtain rfl := Option.some.inj H
                go_wp2_with (first | ((with_reducible refine gate_callee (f := 43) rfl ?_); refine goesL_ (some 90) rfl rfl Try.func43 (by kernel_rfl) rfl #[.slice Ao65 t704.length co65, .int .i64 1] rfl (by (try simp only [mA_]); first | done | rfl | (simp only [List.length_drop, List.length_take]; rfl)) ?_; (with_reducible refine (laws_heldIntS.calls kj63 _ _ t704 1 t720 _ ?side1 ?side2 A80.out).mono ?_); (case side1 => repeat (first | exact (Kd.R_reads' HO_7.out).2.2 | (with_reducible refine Kd.C_alloc ?_ _) | (with_reducible refine Kd.C_drewN ?_ _) | (with_reducible refine Kd.C_drew ?_))); (case side2 => exact (Kd.R_reads' HO_7.out).2.1); rintro e w' ⟨rfl, ⟨nd, rfl⟩⟩; refine ⟨_, rfl, ?_⟩))
                go_ret
                exact ⟨by first | rfl | (simp [errW_none, errW_some] <;> rfl) | (simp [*, errW_none, errW_some] <;> rfl), by repeat (first | (with_reducible first | exact bw HB.out | refine bset ?_ (by assumption) | apply below_alloc | apply pw_below_drewN | apply below_drew1) | exact HB.out)⟩
               ·rw [if_neg c82] at H
                have c82b0 : (t720 == t703) = false := beq_eq_false_iff_ne.mpr c82
                have c82b1 : (t720 != t703) = true := bne_iff_ne.mpr c82
                obtain rfl := Option.some.inj H
                go_wp2_with (first | ((with_reducible refine gate_callee (f := 43) rfl ?_); refine goesL_ (some 90) rfl rfl Try.func43 (by kernel_rfl) rfl #[.slice Ao65 t704.length co65, .int .i64 1] rfl (by (try simp only [mA_]); first | done | rfl | (simp only [List.length_drop, List.length_take]; rfl)) ?_; (with_reducible refine (laws_heldIntS.calls kj63 _ _ t704 1 t720 _ ?side1 ?side2 A80.out).mono ?_); (case side1 => repeat (first | exact (Kd.R_reads' HO_7.out).2.2 | (with_reducible refine Kd.C_alloc ?_ _) | (with_reducible refine Kd.C_drewN ?_ _) | (with_reducible refine Kd.C_drew ?_))); (case side2 => exact (Kd.R_reads' HO_7.out).2.1); rintro e w' ⟨rfl, ⟨nd, rfl⟩⟩; refine ⟨_, rfl, ?_⟩))
                go_ret
                exact ⟨by first | rfl | (simp [errW_none, errW_some] <;> rfl) | (simp [*, errW_none, errW_some] <;> rfl), by repeat (first | (with_reducible first | exact bw HB.out | refine bset ?_ (by assumption) | apply below_alloc | apply pw_below_drewN | apply below_drew1) | exact HB.out)⟩
          ·rw [if_neg c61] at H
           have c61b0 : (t705 == t703) = false := beq_eq_false_iff_ne.mpr c61
           have c61b1 : (t705 != t703) = true := bne_iff_ne.mpr c61
           obtain rfl := Option.some.inj H
           obtain ⟨Ao83, co83, eo83⟩ := Kd.R_slice HO_7.out
           subst eo83
           go_wp2_with (first | ((with_reducible refine gate_callee (f := 42) rfl ?_); refine goesL_ (some 64) rfl rfl Try.func42 (by kernel_rfl) rfl #[.slice Ao83 t684.length co83, .int .i64 1] rfl (by (try simp only [mA_]); first | done | rfl | (simp only [List.length_drop, List.length_take]; rfl)) ?_; (with_reducible refine (laws_markIntS.calls kj38 (fun k_ => some k_ = (.slice Ao83 t684.length co83 : Value).ownBlock) (.slice Ao83 t684.length co83) t684 1 t703 t704 w _ ?side1 ?side2 A56.out).mono ?_); (case side1 => repeat (first | (with_reducible first | exact HB.out | apply below_alloc | apply pw_below_drewN | apply below_drew1 | refine below_set ?_ GE659.out | refine below_set ?_ GE683.out) | exact HB.out)); (case side2 => exact Kd.R_tight rfl HO_7.out); rintro e w84 ⟨rfl, hy0, hb, hkp⟩; refine ⟨_, rfl, ?_⟩; have n0_ := Aside0.mk (Kd.R_mono (ok' := fun k_ => some k_ ≠ (.slice Ao83 t684.length co83 : Value).ownBlock) (Kd.R_keptB (HO_4.out) hkp (fun k_ hk_ hs_ => (hk_) hs_)) (fun k_ hk_ => hk_.1)); have n1_ := Aside0.mk (Kd.R_reok rfl hy0 (fun k_ e_ => HO_7.out.1 k_ e_)); have n2_ := Aside0.mk (Kd.R_mono (ok' := fun k_ => True) (Kd.R_keptB ((Kd.R_apart' HO_684003.out (Kd.R_typed HO_7.out) (by decide))) hkp (fun k_ hk_ hs_ => (hk_.2) hs_)) (fun k_ hk_ => trivial)); have n3_ := Aside0.mk (Kd.R_mono (ok' := fun k_ => True) (Kd.R_keptB ((Kd.R_apart' HO_684004.out (Kd.R_typed HO_7.out) (by decide))) hkp (fun k_ hk_ hs_ => (hk_.2) hs_)) (fun k_ hk_ => trivial)); have n4_ := Aside0.mk (blk_kept (bs BK659.out) hkp (fun hs_ => (fun e_ => (Kd.R_ne HO_7.out BK659.out (by decide)) e_) hs_)); have n5_ := Aside0.mk (blk_kept (bs BK683.out) hkp (fun hs_ => (fun e_ => (Kd.R_ne HO_7.out BK683.out (by decide)) e_) hs_)); have n6_ := Aside0.mk (hb); clear HO_4; clear HO_7; clear HO_684003; clear HO_684004; clear BK659; clear BK683; clear HB; have HO_4 := n0_; have HO_7 := n1_; have HO_684003 := n2_; have HO_684004 := n3_; have BK659 := n4_; have BK683 := n5_; have HB := n6_; clear n0_ n1_ n2_ n3_ n4_ n5_ n6_; (try clear hb); (try clear hkp); (try clear hy0)) | ((with_reducible refine gate_callee (f := 43) rfl ?_); refine goesL_ (some 67) rfl rfl Try.func43 (by kernel_rfl) rfl #[.slice Ao83 t704.length co83, .int .i64 1] rfl (by (try simp only [mA_]); first | done | (rw [show t704.length = t684.length from (Kd.R_reads' HO_7.out).1.symm] <;> rfl) | rfl | (simp only [List.length_drop, List.length_take]; rfl)) ?_; (with_reducible refine (laws_heldIntS.calls kj38 _ _ t704 1 t705 _ ?side1 ?side2 A57.out).mono ?_); (case side1 => repeat (first | exact (Kd.R_reads' HO_7.out).2.2 | (with_reducible refine Kd.C_alloc ?_ _) | (with_reducible refine Kd.C_drewN ?_ _) | (with_reducible refine Kd.C_drew ?_))); (case side2 => rw [show t704.length = t684.length from (Kd.R_reads' HO_7.out).1.symm]; exact (Kd.R_reads' HO_7.out).2.1); rintro e w' ⟨rfl, ⟨nd, rfl⟩⟩; refine ⟨_, rfl, ?_⟩))
           go_ret
           exact ⟨by first | rfl | (simp [errW_none, errW_some] <;> rfl) | (simp [*, errW_none, errW_some] <;> rfl), by repeat (first | (with_reducible first | exact bw HB.out | refine bset ?_ (by assumption) | apply below_alloc | apply pw_below_drewN | apply below_drew1) | exact HB.out)⟩
     ·replace c37 := Bool.eq_false_iff.mpr c37
      subst c37
      have H1 : (some false) = some r := by rw [if_neg (show ¬ (false = true) by decide)] at H; exact H
      clear H
      have H := H1
      clear H1
      obtain rfl := Option.some.inj H
      try go_wp2
      have n0_ := Aside0.mk (Kd.R_drew HO_4.out)
      have n1_ := Aside0.mk (Kd.R_drew HO_7.out)
      have n2_ := Aside0.mk (Kd.R_drew HO_684003.out)
      have n3_ := Aside0.mk (Kd.R_drew HO_684004.out)
      have n4_ := Aside0.mk (blk_drew BK659.out)
      have n5_ := Aside0.mk (blk_drew BK683.out)
      have n6_ := Aside0.mk (below_drew1 HB.out)
      clear HO_4
      clear HO_7
      clear HO_684003
      clear HO_684004
      clear BK659
      clear BK683
      clear HB
      have HO_4 := n0_
      have HO_7 := n1_
      have HO_684003 := n2_
      have HO_684004 := n3_
      have BK659 := n4_
      have BK683 := n5_
      have HB := n6_
      clear n0_ n1_ n2_ n3_ n4_ n5_ n6_
      refine start_ (n := 5) (S := fun w' => w'.cell? ⟨gb683, 0, none⟩ = some (.int .i64 t674) ∧ w'.cell? ⟨gb683, 1, none⟩ = some (.int .i64 t675) ∧ w'.cell? ⟨gb683, 2, none⟩ = some (.int .i64 t676) ∧ w'.cell? ⟨gb683, 3, none⟩ = some (.slice Ao25 t677.length co25) ∧ w'.cell? ⟨gb683, 4, none⟩ = some (.slice Ao26 t680.length co26) ∧ w'.cell? ⟨gb659, 0, none⟩ = some (.int .i64 a0_0) ∧ w'.cell? ⟨gb659, 1, none⟩ = some (.int .i64 a0_1) ∧ w'.cell? ⟨gb659, 2, none⟩ = some (.int .i64 a0_2) ∧ w'.cell? ⟨gb659, 3, none⟩ = some (.slice A0_3 l0_3.length c0_3) ∧ w'.cell? ⟨gb659, 4, none⟩ = some (.slice A0_4 l0_4.length c0_4)) (ds := []) #[false, false, false, false, false] (by kernel_rfl) rfl rfl ⟨(blk_cell BK683.out 0).trans rfl, (blk_cell BK683.out 1).trans rfl, (blk_cell BK683.out 2).trans rfl, (blk_cell BK683.out 3).trans rfl, (blk_cell BK683.out 4).trans rfl, (blk_cell BK659.out 0).trans rfl, (blk_cell BK659.out 1).trans rfl, (blk_cell BK659.out 2).trans rfl, (blk_cell BK659.out 3).trans rfl, (blk_cell BK659.out 4).trans rfl⟩ (fun hHeld => ?_)
      generalize wc.drew = w85 at HO_4 HO_7 HO_684003 HO_684004 BK659 BK683 HB hHeld ⊢
      refine take_ (i := 0) (N := some 41) (v := ?_) (a' := ?_) #[true, false, false, false, false] rfl rfl (by kernel_rfl) (fun _ _ _ h => h) (Or.inl ⟨by rfl, ?_⟩) hHeld ?_ ?_
      rotate_left
      ·rintro w' ⟨s0, s1, s2, s3, s4, s5, s6, s7, s8, s9⟩
       go_simp
       with_reducible rfl
      rotate_left
      ·simp only [aq_]
       rfl
      refine take_ (i := 1) (N := some 42) (v := ?_) (a' := ?_) #[true, true, false, false, false] rfl rfl (by kernel_rfl) (fun _ _ _ h => h) (Or.inl ⟨by rfl, ?_⟩) hHeld ?_ ?_
      rotate_left
      ·rintro w' ⟨s0, s1, s2, s3, s4, s5, s6, s7, s8, s9⟩
       go_simp
       with_reducible rfl
      rotate_left
      ·simp only [aq_]
       rfl
      refine one_ (i := 2) (N := some 43) #[true, true, true, false, false] rfl rfl (by kernel_rfl) (by decide) (fun K hK => ?_)
      refine goes_ Try.func39 (by kernel_rfl) rfl #[.agg #[.int .i64 a0_0, .int .i64 a0_1, .int .i64 a0_2, .slice A0_3 l0_3.length c0_3, .slice A0_4 l0_4.length c0_4]] (by rfl) rfl rfl (by (try simp only [mA_]); first | done | rfl | (simp only [List.length_drop, List.length_take]; rfl)) ?_
      with_reducible refine (laws_toDispatcher.calls kj10 a0_0 a0_1 a0_2 _ _ l0_3 _ _ l0_4 t689 t690 t691 t692 t695 _ ?side1 ?side2 ?side3 ?side4 A35.out).mono ?_
      (case side1 => first | exact bC HR0_3.out HB.out | exact Kd.C_below HR0_3.out HB.out)
      (case side2 => exact HC0_3.out)
      (case side3 => first | exact bC HR0_4.out HB.out | exact Kd.C_below HR0_4.out HB.out)
      (case side4 => exact HC0_4.out)
      rintro e w86 ⟨v693, v696, rfl, ho0, ho1, hb⟩
      refine ⟨_, rfl, ?_⟩
      have n0_ := Aside0.mk (Kd.R_below (bR HO_4.out) hb)
      have n1_ := Aside0.mk (Kd.R_below (bR HO_7.out) hb)
      have n2_ := Aside0.mk (Kd.R_elder' (bR HO_684003.out) (Kd.R_base ho0) hb)
      have n3_ := Aside0.mk (Kd.R_elder' (bR HO_684004.out) (Kd.R_base ho1) hb)
      have n4_ := Aside0.mk (Kd.R_lower (Kd.R_new' ho0 (Kd.R_lt (bR HO_684003.out))) (below_size (by repeat (first | (with_reducible first | exact bw HB.out | refine bset ?_ (by assumption) | apply below_alloc | apply pw_below_drewN | apply below_drew1) | exact HB.out))))
      have n5_ := Aside0.mk (Kd.R_lower (Kd.R_new' ho1 (Kd.R_lt (bR HO_684004.out))) (below_size (by repeat (first | (with_reducible first | exact bw HB.out | refine bset ?_ (by assumption) | apply below_alloc | apply pw_below_drewN | apply below_drew1) | exact HB.out))))
      have n6_ := Aside0.mk (blk_below (bs BK659.out) hb)
      have n7_ := Aside0.mk (blk_below (bs BK683.out) hb)
      have n8_ := Aside0.mk (below_step (by repeat (first | (with_reducible first | exact bw HB.out | refine bset ?_ (by assumption) | apply below_alloc | apply pw_below_drewN | apply below_drew1) | exact HB.out)) hb)
      clear HO_4
      clear HO_7
      clear HO_684003
      clear HO_684004
      clear BK659
      clear BK683
      clear HB
      have HO_4 := n0_
      have HO_7 := n1_
      have HO_684003 := n2_
      have HO_684004 := n3_
      have HO694 := n4_
      have HO697 := n5_
      have BK659 := n6_
      have BK683 := n7_
      have HB := n8_
      clear n0_ n1_ n2_ n3_ n4_ n5_ n6_ n7_ n8_
      (try clear hb)
      (try clear hb2)
      (try clear hk)
      (try clear hi)
      (try clear ho0)
      (try clear ho1)
      obtain ⟨Ao87, co87, eo87⟩ := Kd.R_slice HO694.out
      (first | subst eo87 | (injection eo87 with f1_ f2_ f3_; have f4_ := f1_.symm; have f5_ := f3_.symm; clear f1_ f2_ f3_; subst f4_; subst f5_))
      obtain ⟨Ao88, co88, eo88⟩ := Kd.R_slice HO697.out
      (first | subst eo88 | (injection eo88 with f1_ f2_ f3_; have f4_ := f1_.symm; have f5_ := f3_.symm; clear f1_ f2_ f3_; subst f4_; subst f5_))
      refine hK.out _ _ ⟨(blk_cell BK683.out 0).trans rfl, (blk_cell BK683.out 1).trans rfl, (blk_cell BK683.out 2).trans rfl, (blk_cell BK683.out 3).trans rfl, (blk_cell BK683.out 4).trans rfl, (blk_cell BK659.out 0).trans rfl, (blk_cell BK659.out 1).trans rfl, (blk_cell BK659.out 2).trans rfl, (blk_cell BK659.out 3).trans rfl, (blk_cell BK659.out 4).trans rfl⟩ (fun hHeld => ?_)
      clear hK K
      refine norm_ (a' := ?_) ?_ ?_
      rotate_left
      ·show Act.put _ (some 43) _ = _
       simp only [aq_]
       rfl
      refine one_ (i := 3) (N := some 44) #[true, true, true, true, false] rfl rfl (by kernel_rfl) (by decide) (fun K hK => ?_)
      refine goes_ Try.func18 (by kernel_rfl) rfl #[.agg #[.int .i64 t674, .int .i64 t675, .int .i64 t676, .slice Ao25 t677.length co25, .slice Ao26 t680.length co26], .agg #[.int .i64 t689, .int .i64 t690, .int .i64 t691, .slice Ao87 t692.length co87, .slice Ao88 t695.length co88]] (by rfl) rfl rfl (by (try simp only [mA_]); first | done | rfl | (simp only [List.length_drop, List.length_take]; rfl)) ?_
      with_reducible refine (laws_eqDispatcher.calls kj10 t674 t675 t676 _ _ t677 _ _ t680 t689 t690 t691 _ _ t692 _ _ t695 false _ ?side1 ?side2 ?side3 ?side4 ?side5 ?side6 ?side7 ?side8 A36.out).mono ?_
      (case side1 => repeat (first | exact (Kd.R_reads' HO_684003.out).2.2 | (with_reducible refine Kd.C_alloc ?_ _) | (with_reducible refine Kd.C_drewN ?_ _) | (with_reducible refine Kd.C_drew ?_)))
      (case side2 => exact (Kd.R_reads' HO_684003.out).2.1)
      (case side3 => repeat (first | exact (Kd.R_reads' HO_684004.out).2.2 | (with_reducible refine Kd.C_alloc ?_ _) | (with_reducible refine Kd.C_drewN ?_ _) | (with_reducible refine Kd.C_drew ?_)))
      (case side4 => exact (Kd.R_reads' HO_684004.out).2.1)
      (case side5 => repeat (first | exact (Kd.R_reads' HO694.out).2.2 | (with_reducible refine Kd.C_alloc ?_ _) | (with_reducible refine Kd.C_drewN ?_ _) | (with_reducible refine Kd.C_drew ?_)))
      (case side6 => exact (Kd.R_reads' HO694.out).2.1)
      (case side7 => repeat (first | exact (Kd.R_reads' HO697.out).2.2 | (with_reducible refine Kd.C_alloc ?_ _) | (with_reducible refine Kd.C_drewN ?_ _) | (with_reducible refine Kd.C_drew ?_)))
      (case side8 => exact (Kd.R_reads' HO697.out).2.1)
      rintro e w89 ⟨rfl, hb⟩
      refine ⟨_, rfl, ?_⟩
      have n0_ := Aside0.mk (Kd.R_below (bR HO_4.out) hb)
      have n1_ := Aside0.mk (Kd.R_below (bR HO_7.out) hb)
      have n2_ := Aside0.mk (Kd.R_below (bR HO_684003.out) hb)
      have n3_ := Aside0.mk (Kd.R_below (bR HO_684004.out) hb)
      have n4_ := Aside0.mk (Kd.R_below (bR HO694.out) hb)
      have n5_ := Aside0.mk (Kd.R_below (bR HO697.out) hb)
      have n6_ := Aside0.mk (blk_below (bs BK659.out) hb)
      have n7_ := Aside0.mk (blk_below (bs BK683.out) hb)
      have n8_ := Aside0.mk (below_step (by repeat (first | (with_reducible first | exact bw HB.out | refine bset ?_ (by assumption) | apply below_alloc | apply pw_below_drewN | apply below_drew1) | exact HB.out)) hb)
      clear HO_4
      clear HO_7
      clear HO_684003
      clear HO_684004
      clear HO694
      clear HO697
      clear BK659
      clear BK683
      clear HB
      have HO_4 := n0_
      have HO_7 := n1_
      have HO_684003 := n2_
      have HO_684004 := n3_
      have HO694 := n4_
      have HO697 := n5_
      have BK659 := n6_
      have BK683 := n7_
      have HB := n8_
      clear n0_ n1_ n2_ n3_ n4_ n5_ n6_ n7_ n8_
      (try clear hb)
      (try clear hb2)
      (try clear hk)
      (try clear hi)
      refine hK.out _ _ ⟨(blk_cell BK683.out 0).trans rfl, (blk_cell BK683.out 1).trans rfl, (blk_cell BK683.out 2).trans rfl, (blk_cell BK683.out 3).trans rfl, (blk_cell BK683.out 4).trans rfl, (blk_cell BK659.out 0).trans rfl, (blk_cell BK659.out 1).trans rfl, (blk_cell BK659.out 2).trans rfl, (blk_cell BK659.out 3).trans rfl, (blk_cell BK659.out 4).trans rfl⟩ (fun hHeld => ?_)
      clear hK K
      refine norm_ (a' := ?_) ?_ ?_
      rotate_left
      ·show Act.put _ (some 44) _ = _
       simp only [aq_]
       rfl
      refine puq_ (i := 4) (N := some 45) (v := ?_) (a' := ?_) rfl rfl (by kernel_rfl) (fun _ _ _ h => h) (Or.inl ⟨by rfl, ?_⟩) ?_ ?_
      rotate_left
      ·intro w'
       go_simp
       with_reducible rfl
      rotate_left
      ·simp only [aq_]
       rfl
      refine done_ (by kernel_rfl) ?_
      try go_wp2
      go_ret
      exact ⟨by first | rfl | (simp [errW_none, errW_some] <;> rfl) | (simp [*, errW_none, errW_some] <;> rfl), by repeat (first | (with_reducible first | exact bw HB.out | refine bset ?_ (by assumption) | apply below_alloc | apply pw_below_drewN | apply below_drew1) | exact HB.out)⟩

end Go.Proofs.Ytafdeppeacmpdaa.X
