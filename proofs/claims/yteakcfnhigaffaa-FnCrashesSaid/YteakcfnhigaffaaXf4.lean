-- Written by a program of this session (wip/gen/xp.py, over the kit's printer). Not trusted: Lean checks it.
import Derived.Test.YteakcfnhigaffaaX0
import Derived.Test.YteakcfnhigaffaaXe1
import Derived.Test.YteakcfnhigaffaaXf14
import Derived.Test.YteakcfnhigaffaaXf17
import Derived.Test.YteakcfnhigaffaaXf21
import Derived.Test.YteakcfnhigaffaaXf5
namespace Go.Proofs.Yteakcfnhigaffaa.X
open Go.RowKit Go.Proofs.YteakcfnhigaffaaW.PrintWords Go.Proofs.YteakcfnhigaffaaW.PrintLast Go.Proofs.YteakcfnhigaffaaW.PrintMore
attribute [local go_sem] max2_int min2_int max_two min_two max_three min_three max_four min_four   -- for this text's walks alone
set_option linter.unusedVariables false
set_option linter.unusedSimpArgs false

attribute [local go_sem high] eqA33
/-! ### spec_DrawCrashLog: function 24 -/
abbrev q24_0 : Array Bool := ⟨rl_ [7] false⟩
abbrev q24_3 : Array Bool := ⟨rl_ [3, 4] true⟩
abbrev q24_4 : Array Bool := ⟨rl_ [4, 3] true⟩
abbrev q24_5 : Array Bool := ⟨rl_ [5, 2] true⟩
def spec_DrawCrashLog.f (k : Nat) (l0 : List Int) : Option (ByteArray × ByteArray × Int × Int × Bool) := (spec_l1Cur_anyLog.f k l0 0 0).bind fun bt508 => ((spec_l1Cur_pick.f l0 bt508.2.2.2.1 bt508.2.2.2.2 (wrap64 ((bt508.2.1.size : Int) + 3))).bind fun bt514 => ((spec_l1Cur_one.f l0 bt514.2.1 bt514.2.2 2).bind fun bt517 => (some (bt508.1, bt508.2.1, bt508.2.2.1, wrap64 (bt514.1 - 1), bt517.1))))
theorem spec_DrawCrashLog.mono : ∀ a0 k, LeO (spec_DrawCrashLog.f k a0) (spec_DrawCrashLog.f (k + 1) a0) := by
 intro a0 k
 unfold spec_DrawCrashLog.f
 repeat' first
   | (with_reducible exact spec_l1Cur_anyLog.mono _ _ _ _)
   | (with_reducible exact LeO.refl _)
   | (with_reducible exact LeO.none _)
   | (with_reducible refine LeO.ite ?_ ?_)
   | (with_reducible refine LeO.bind ?_ (fun _ => ?_))
   | exact spec_l1Cur_anyLog.mono _ _ _ _
   | exact LeO.none _
   | refine LeO.ite ?_ ?_
   | refine LeO.bind ?_ (fun _ => ?_)
set_option maxHeartbeats 8000000 in
set_option maxRecDepth 100000 in
theorem spec_DrawCrashLog.calls (k : Nat) (A0 : Option Addr) (c0 : Nat) (l0 : List Int) (r1 : ByteArray) (r2 : ByteArray) (r3 : Int) (r4 : Int) (r5 : Bool) (w : World) (hr0 : Kd.C (Kd.int .u8) w A0 l0.length l0) (hc0 : l0.length ≤ c0) (h : spec_DrawCrashLog.f k l0 = some (r1, r2, r3, r4, r5)) :
  Calls Try.prog 24 #[.slice A0 l0.length c0] w fun e w' => e = .returned (.tuple #[.agg #[.string r1, .string r2, .int .i64 r3], .int .i64 r4, .bool r5]) ∧ Below w.heap.size w w' := by
 have hu33 := Try.underlying33
 have hu55 := Try.underlying55
 have HR0 := Aside0.mk hr0
 have HC0 := Aside0.mk hc0
 clear hr0 hc0
 have HB := Aside0.mk (Below.refl w.heap.size w)
 have H : ((spec_l1Cur_anyLog.f k l0 0 0).bind fun bt508 => ((spec_l1Cur_pick.f l0 bt508.2.2.2.1 bt508.2.2.2.2 (wrap64 ((bt508.2.1.size : Int) + 3))).bind fun bt514 => ((spec_l1Cur_one.f l0 bt514.2.1 bt514.2.2 2).bind fun bt517 => (some (bt508.1, bt508.2.1, bt508.2.2.1, wrap64 (bt514.1 - 1), bt517.1))))) = some (r1, r2, r3, r4, r5) := h
 clear h
 replace H := Option.bind_eq_some_iff.mp H
 obtain ⟨⟨t508, t509, t510, t511, t512⟩, A20, H⟩ := H
 replace H : ((spec_l1Cur_pick.f l0 t511 t512 (wrap64 ((t509.size : Int) + 3))).bind fun bt514 => ((spec_l1Cur_one.f l0 bt514.2.1 bt514.2.2 2).bind fun bt517 => (some (t508, t509, t510, wrap64 (bt514.1 - 1), bt517.1)))) = some (r1, r2, r3, r4, r5) := H
 have A2 := Aside0.mk A20
 clear A20
 replace H := Option.bind_eq_some_iff.mp H
 obtain ⟨⟨t514, t515, t516⟩, A30, H⟩ := H
 replace H : ((spec_l1Cur_one.f l0 t515 t516 2).bind fun bt517 => (some (t508, t509, t510, wrap64 (t514 - 1), bt517.1))) = some (r1, r2, r3, r4, r5) := H
 have A3 := Aside0.mk A30
 clear A30
 replace H := Option.bind_eq_some_iff.mp H
 obtain ⟨⟨t517, t518, t519⟩, A40, H⟩ := H
 replace H : (some (t508, t509, t510, wrap64 (t514 - 1), t517)) = some (r1, r2, r3, r4, r5) := H
 have A4 := Aside0.mk A40
 clear A40
 simp only [Option.some.injEq, Prod.mk.injEq] at H
 obtain ⟨rfl, rfl, rfl, rfl, rfl⟩ := H
 go_enter Try.func24, Try.ntmps24
 try go_wp2_with (first | ((with_reducible refine gate_dst (N := 2) rfl ?_); refine box_event ?hg (N := 2) ?hd (cs := #[.string (⟨#[]⟩ : ByteArray), .string (⟨#[]⟩ : ByteArray), .int .i64 0]) (t := 33) ?hr ?_; (case hd => rfl); (case hg => rfl); (case hr => first | (go_simp; done) | (go_simp; rfl)); intro gb506 hg w5 hbox hb; have n0_ := Aside0.mk (below_step (bw HB.out) hb); have n1_ := Aside0.mk (hbox); have n2_ := ge_ hg HB.out; have n3_ := ge_ hg HB.out; replace HB := n0_; have BK506 := n1_; have GW506 := n2_; have GE506 := n3_; clear n0_ n1_ n2_ n3_; clear hb hbox hg) | ((with_reducible refine gate_dst (N := 10) rfl ?_); refine box_event ?hg (N := 10) ?hd (cs := #[.slice A0 l0.length c0, .int .i64 0, .int .u64 0]) (t := 55) ?hr ?_; (case hd => rfl); (case hg => rfl); (case hr => first | (go_simp; done) | (go_simp; rfl)); intro gb507 hg w6 hbox hb; have n0_ := Aside0.mk (blk_below (bs BK506.out) hb); have n1_ := Aside0.mk (below_step (by repeat (first | (with_reducible first | exact bw HB.out | refine bset ?_ | apply bA | apply bN | apply bD) | exact HB.out)) hb); have n2_ := Aside0.mk ((show IsS55 w w6 gb507 l0 0 0 from ⟨A0, c0, hbox, (by rw [hg]; exact (below_size (by repeat (first | (with_reducible first | exact bw HB.out | refine bset ?_ | apply bA | apply bN | apply bD) | exact HB.out))) : w.heap.size ≤ gb507), HR0.out⟩)); have n3_ := ne_ hg BK506.out; have n4_ := en_ hg BK506.out; replace BK506 := n0_; replace HB := n1_; have HI507 := n2_; have NB506_507 := n3_; have NB507_506 := n4_; clear n0_ n1_ n2_ n3_ n4_; (try clear hbox); (try clear hb); (try clear hg)) | ((with_reducible refine gate_callee (f := 38) rfl ?_); refine goesL_ (some 12) rfl rfl Try.func38 (by kernel_rfl) rfl #[.pointer (some ⟨gb507, 0, none⟩)] rfl (by (try simp only [mA_]); first | done | rfl | (simp only [List.length_drop, List.length_take]; rfl)) ?_; (with_reducible refine (spec_l1Cur_anyLog.calls k gb507 l0 0 0 t508 t509 t510 t511 t512 w _ ?side1 ?side2 A2.out).mono ?_); (case side1 => repeat (first | (with_reducible first | exact HI507.out | apply IsS55.alloc | apply IsS55.drewN | apply IsS55.drew | apply IsS55.set_1 | apply IsS55.set_2 | refine IsS55.far ?_ NB507_506.out _) | exact HI507.out)); (case side2 => repeat (first | (with_reducible first | exact HB.out | apply below_alloc | apply pw_below_drewN | apply below_drew1 | refine below_set ?_ (IsS55.ge HI507.out) | refine below_set ?_ GE506.out) | exact HB.out)); rintro e w7 ⟨rfl, hi, hb, hk⟩; refine ⟨_, rfl, ?_⟩; have n0_ := Aside0.mk (KeepBut.blk hk (g' := gb506) (o := .cells #[.string (⟨#[]⟩ : ByteArray), .string (⟨#[]⟩ : ByteArray), .int .i64 0] 33 (0, 0)) (bs BK506.out) NB506_507.out (by simp)); have n1_ := Aside0.mk (hb); have n2_ := Aside0.mk (hi); replace BK506 := n0_; replace HB := n1_; replace HI507 := n2_; clear n0_ n1_ n2_; (try clear hb); (try clear hb2); (try clear hk); (try clear hi)) | ((with_reducible refine gate_dst (N := 6) rfl ?_); refine box_event ?hg (N := 6) ?hd (cs := #[.string (⟨#[]⟩ : ByteArray), .string (⟨#[]⟩ : ByteArray), .int .i64 0]) (t := 33) ?hr ?_; (case hd => rfl); (case hg => rfl); (case hr => first | (go_simp; done) | (go_simp; rfl)); intro gb513 hg w8 hbox hb; have n0_ := Aside0.mk (blk_below (bs BK506.out) hb); have n1_ := Aside0.mk (IsS55.below (by repeat (first | (with_reducible first | exact HI507.out | apply IsS55.alloc | apply IsS55.drewN | apply IsS55.drew | apply IsS55.set_1 | apply IsS55.set_2 | refine IsS55.far ?_ NB507_506.out _) | exact HI507.out)) hb); have n2_ := Aside0.mk (below_step (by repeat (first | (with_reducible first | exact HB.out | apply below_alloc | apply pw_below_drewN | apply below_drew1 | refine below_set ?_ (IsS55.ge HI507.out) | refine below_set ?_ GE506.out) | exact HB.out)) hb); have n3_ := Aside0.mk (hbox); have n4_ := Aside0.mk ((by rw [hg]; exact (below_size (by repeat (first | (with_reducible first | exact HB.out | apply below_alloc | apply pw_below_drewN | apply below_drew1 | refine below_set ?_ (IsS55.ge HI507.out) | refine below_set ?_ GE506.out) | exact HB.out))) : w.heap.size ≤ gb513)); have n5_ := Aside0.mk ((by rw [hg]; exact (below_size (by repeat (first | (with_reducible first | exact HB.out | apply below_alloc | apply pw_below_drewN | apply below_drew1 | refine below_set ?_ (IsS55.ge HI507.out) | refine below_set ?_ GE506.out) | exact HB.out))) : w.heap.size ≤ gb513)); have n6_ := ne_ hg BK506.out; have n7_ := en_ hg BK506.out; have n8_ := Aside0.mk ((by rw [hg]; exact Nat.ne_of_lt (IsS55.lt (show IsS55 w _ gb507 l0 t511 t512 from by repeat (first | (with_reducible first | exact HI507.out | apply IsS55.alloc | apply IsS55.drewN | apply IsS55.drew | apply IsS55.set_1 | apply IsS55.set_2 | refine IsS55.far ?_ NB507_506.out _) | exact HI507.out))) : gb507 ≠ gb513)); have n9_ := Aside0.mk ((by rw [hg]; exact Nat.ne_of_gt (IsS55.lt (show IsS55 w _ gb507 l0 t511 t512 from by repeat (first | (with_reducible first | exact HI507.out | apply IsS55.alloc | apply IsS55.drewN | apply IsS55.drew | apply IsS55.set_1 | apply IsS55.set_2 | refine IsS55.far ?_ NB507_506.out _) | exact HI507.out))) : gb513 ≠ gb507)); replace BK506 := n0_; replace HI507 := n1_; replace HB := n2_; have BK513 := n3_; have GW513 := n4_; have GE513 := n5_; have NB506_513 := n6_; have NB513_506 := n7_; have NB507_513 := n8_; have NB513_507 := n9_; clear n0_ n1_ n2_ n3_ n4_ n5_ n6_ n7_ n8_ n9_; clear hb hbox hg; have hnb9 := NB513_506.out; have hnc9 := NB506_513.out; have hnb10 := NB513_507.out; have hnc10 := NB507_513.out; obtain ⟨hcz11_0, hcz11_1, hcz11_2, hfz11_0, hfz11_1, hfz11_2⟩ := bz3 BK513.out) | ((with_reducible refine gate_callee (f := 40) rfl ?_); refine goesL_ (some 18) rfl rfl Try.func40 (by kernel_rfl) rfl #[.pointer (some ⟨gb507, 0, none⟩), .int .i64 (wrap64 ((t509.size : Int) + 3))] rfl (by (try simp only [mA_]); first | done | rfl | (simp only [List.length_drop, List.length_take]; rfl)) ?_; (with_reducible refine (spec_l1Cur_pick.calls gb507 l0 t511 t512 (wrap64 ((t509.size : Int) + 3)) t514 t515 t516 w _ ?side1 ?side2 A3.out).mono ?_); (case side1 => repeat (first | (with_reducible first | exact HI507.out | apply IsS55.alloc | apply IsS55.drewN | apply IsS55.drew | apply IsS55.set_1 | apply IsS55.set_2 | refine IsS55.far ?_ NB507_506.out _ | refine IsS55.far ?_ NB507_513.out _) | exact HI507.out)); (case side2 => repeat (first | (with_reducible first | exact HB.out | apply below_alloc | apply pw_below_drewN | apply below_drew1 | refine below_set ?_ (IsS55.ge HI507.out) | refine below_set ?_ GE506.out | refine below_set ?_ GE513.out) | exact HB.out)); rintro e w12 ⟨rfl, hi, hb, hk⟩; refine ⟨_, rfl, ?_⟩; have n0_ := Aside0.mk (KeepBut.blk hk (g' := gb506) (o := .cells #[.string (⟨#[]⟩ : ByteArray), .string (⟨#[]⟩ : ByteArray), .int .i64 0] 33 (0, 0)) (by (with_reducible repeat (first | refine blk_drewN ?_ _ | refine blk_drew ?_ | refine blk_alloc ?_ _)); refine blk_far ?_ NB506_513.out _; (with_reducible repeat (first | refine blk_drewN ?_ _ | refine blk_drew ?_ | refine blk_alloc ?_ _)); refine blk_far ?_ NB506_513.out _; (with_reducible repeat (first | refine blk_drewN ?_ _ | refine blk_drew ?_ | refine blk_alloc ?_ _)); refine blk_far ?_ NB506_513.out _; exact bs BK506.out) NB506_507.out (by simp)); have n1_ := Aside0.mk (KeepBut.blk hk (g' := gb513) (o := .cells #[.string t508, .string t509, .int .i64 t510] 33 (0, 0)) (by (with_reducible repeat (first | refine blk_drewN ?_ _ | refine blk_drew ?_ | refine blk_alloc ?_ _)); refine blk_put (cs := #[.string t508, .string t509, .int .i64 0]) ?_ 2 _ rfl; (with_reducible repeat (first | refine blk_drewN ?_ _ | refine blk_drew ?_ | refine blk_alloc ?_ _)); refine blk_put (cs := #[.string t508, .string (⟨#[]⟩ : ByteArray), .int .i64 0]) ?_ 1 _ rfl; (with_reducible repeat (first | refine blk_drewN ?_ _ | refine blk_drew ?_ | refine blk_alloc ?_ _)); refine blk_put (cs := #[.string (⟨#[]⟩ : ByteArray), .string (⟨#[]⟩ : ByteArray), .int .i64 0]) ?_ 0 _ rfl; exact bs BK513.out) NB513_507.out (by simp)); have n2_ := Aside0.mk (hb); have n3_ := Aside0.mk (hi); replace BK506 := n0_; replace BK513 := n1_; replace HB := n2_; replace HI507 := n3_; clear n0_ n1_ n2_ n3_; (try clear hb); (try clear hb2); (try clear hk); (try clear hi)))
 have n0_ := Aside0.mk (blk_drew BK506.out)
 have n1_ := Aside0.mk (blk_drew BK513.out)
 have n2_ := Aside0.mk (IsS55.drew HI507.out)
 have n3_ := Aside0.mk (below_drew1 HB.out)
 replace BK506 := n0_
 replace BK513 := n1_
 replace HI507 := n2_
 replace HB := n3_
 clear n0_ n1_ n2_ n3_
 refine start_ (n := 7) (S := fun w' => w'.cell? ⟨gb513, 0, none⟩ = some (.string t508) ∧ w'.cell? ⟨gb513, 1, none⟩ = some (.string t509) ∧ w'.cell? ⟨gb513, 2, none⟩ = some (.int .i64 t510)) (ds := []) q24_0 (by kernel_rfl) rfl rfl ⟨(blk_cell BK513.out 0).trans rfl, (blk_cell BK513.out 1).trans rfl, (blk_cell BK513.out 2).trans rfl⟩ (fun hHeld => ?_)
 generalize w12.drew = w13 at BK506 BK513 HI507 HB hHeld ⊢
 refine puq_ (i := 1) (N := some 21) rfl rfl (by kernel_rfl) (fun _ _ _ h => h) (Or.inl ⟨by rfl, by intro w'; go_simp; with_reducible rfl⟩) (by simp only [aq_]; rfl) ?_
 refine puq_ (i := 2) (N := some 22) rfl rfl (by kernel_rfl) (fun _ _ _ h => h) (Or.inl ⟨by rfl, by intro w'; go_simp; with_reducible rfl⟩) (by simp only [aq_]; rfl) ?_
 refine take_ (i := 0) (N := some 20) (v := ?_) (a' := ?_) q24_3 rfl rfl (by kernel_rfl) (fun _ _ _ h => h) (Or.inl ⟨by rfl, ?_⟩) hHeld ?_ ?_
 rotate_left
 ·rintro w' ⟨s0, s1, s2⟩
  go_simp
  with_reducible rfl
 rotate_left
 ·simp only [aq_]
  rfl
 refine one_ (i := 3) (N := some 23) q24_4 rfl rfl (by kernel_rfl) (by decide) (fun K hK => ?_)
 refine goes_ Try.func39 (by kernel_rfl) rfl #[.pointer (some ⟨gb507, 0, none⟩), .int .i64 2] (by rfl) rfl rfl (by (try simp only [mA_]); first | done | rfl | (simp only [List.length_drop, List.length_take]; rfl)) ?_
 with_reducible refine (spec_l1Cur_one.calls gb507 l0 t515 t516 2 t517 t518 t519 w _ ?side1 ?side2 A4.out).mono ?_
 (case side1 => repeat (first | (with_reducible first | exact HI507.out | apply IsS55.alloc | apply IsS55.drewN | apply IsS55.drew | apply IsS55.set_1 | apply IsS55.set_2 | refine IsS55.far ?_ NB507_506.out _ | refine IsS55.far ?_ NB507_513.out _) | exact HI507.out))
 (case side2 => repeat (first | (with_reducible first | exact HB.out | apply below_alloc | apply pw_below_drewN | apply below_drew1 | refine below_set ?_ (IsS55.ge HI507.out) | refine below_set ?_ GE506.out | refine below_set ?_ GE513.out) | exact HB.out))
 rintro e w14 ⟨rfl, hi, hb, hk⟩
 refine ⟨_, rfl, ?_⟩
 have n0_ := Aside0.mk (KeepBut.blk hk (g' := gb506) (o := .cells #[.string (⟨#[]⟩ : ByteArray), .string (⟨#[]⟩ : ByteArray), .int .i64 0] 33 (0, 0)) (bs BK506.out) NB506_507.out (by simp))
 have n1_ := Aside0.mk (KeepBut.blk hk (g' := gb513) (o := .cells #[.string t508, .string t509, .int .i64 t510] 33 (0, 0)) (bs BK513.out) NB513_507.out (by simp))
 have n2_ := Aside0.mk (hb)
 have n3_ := Aside0.mk (hi)
 replace BK506 := n0_
 replace BK513 := n1_
 replace HB := n2_
 replace HI507 := n3_
 clear n0_ n1_ n2_ n3_
 (try clear hb)
 (try clear hb2)
 (try clear hk)
 (try clear hi)
 refine hK.out _ _ ⟨(blk_cell BK513.out 0).trans rfl, (blk_cell BK513.out 1).trans rfl, (blk_cell BK513.out 2).trans rfl⟩ (fun hHeld => ?_)
 clear hK K
 refine norm_ (a' := ?_) ?_ ?_
 rotate_left
 ·show Act.put _ (some 23) _ = _
  simp only [aq_]
  rfl
 refine one_ (i := 4) (N := none) q24_5 rfl rfl (by kernel_rfl) (by decide) (fun K hK => ?_)
 have hs15 : w14.cell? ⟨gb506, 0, none⟩ = some (.string (⟨#[]⟩ : ByteArray)) := (blk_cell BK506.out 0).trans rfl
 have hfs15 := blk_frozen BK506.out 0
 have hns15_1 := NB513_506.out
 have hms15_1 := NB506_513.out
 have hs16 : w14.cell? ⟨gb506, 1, none⟩ = some (.string (⟨#[]⟩ : ByteArray)) := (blk_cell BK506.out 1).trans rfl
 have hfs16 := blk_frozen BK506.out 1
 have hns16_1 := NB513_506.out
 have hms16_1 := NB506_513.out
 have hs17 : w14.cell? ⟨gb506, 2, none⟩ = some (.int .i64 0) := (blk_cell BK506.out 2).trans rfl
 have hfs17 := blk_frozen BK506.out 2
 have hns17_1 := NB513_506.out
 have hms17_1 := NB506_513.out
 refine skip_ (w1 := ?_) (by rfl) rfl ?_ ?_
 rotate_left
 ·go_simp
  rfl
 refine hK.out _ _ ⟨((cell_far (p := ⟨gb506, _, none⟩) NB513_506.out _).trans (((cell_far (p := ⟨gb506, _, none⟩) NB513_506.out _).trans (((cell_far (p := ⟨gb506, _, none⟩) NB513_506.out _).trans (hHeld.1)))))), ((cell_far (p := ⟨gb506, _, none⟩) NB513_506.out _).trans (((cell_far (p := ⟨gb506, _, none⟩) NB513_506.out _).trans (((cell_far (p := ⟨gb506, _, none⟩) NB513_506.out _).trans (hHeld.2.1)))))), ((cell_far (p := ⟨gb506, _, none⟩) NB513_506.out _).trans (((cell_far (p := ⟨gb506, _, none⟩) NB513_506.out _).trans (((cell_far (p := ⟨gb506, _, none⟩) NB513_506.out _).trans (hHeld.2.2))))))⟩ (fun hHeld => ?_)
 clear hK K
 refine puq_ (i := 5) (N := some 3) rfl rfl (by kernel_rfl) (fun _ _ _ h => h) (Or.inl ⟨by rfl, by intro w'; go_simp; with_reducible rfl⟩) (by simp only [aq_]; rfl) ?_
 refine puq_ (i := 6) (N := some 4) rfl rfl (by kernel_rfl) (fun _ _ _ h => h) (Or.inl ⟨by rfl, by intro w'; go_simp; with_reducible rfl⟩) (by simp only [aq_]; rfl) ?_
 refine done_ (by kernel_rfl) ?_
 try go_wp2
 refine bodyPost_ret (results_ctt rfl _ _ gb506 33 #[.string t508, .string t509, .int .i64 t510] (0, 0) _ rfl (by (with_reducible repeat (first | refine blk_drewN ?_ _ | refine blk_drew ?_ | refine blk_alloc ?_ _)); refine blk_put (cs := #[.string t508, .string t509, .int .i64 0]) ?_ 2 _ rfl; (with_reducible repeat (first | refine blk_drewN ?_ _ | refine blk_drew ?_ | refine blk_alloc ?_ _)); refine blk_put (cs := #[.string t508, .string (⟨#[]⟩ : ByteArray), .int .i64 0]) ?_ 1 _ rfl; (with_reducible repeat (first | refine blk_drewN ?_ _ | refine blk_drew ?_ | refine blk_alloc ?_ _)); refine blk_put (cs := #[.string (⟨#[]⟩ : ByteArray), .string (⟨#[]⟩ : ByteArray), .int .i64 0]) ?_ 0 _ rfl; exact bs BK506.out) Try.underlying33 rfl (by kernel_rfl)) rfl ?_
 exact ⟨by first | rfl | (simp [errW_none, errW_some] <;> rfl) | (simp [*, errW_none, errW_some] <;> rfl), by repeat (first | (with_reducible first | exact HB.out | apply below_alloc | apply pw_below_drewN | apply below_drew1 | refine below_set ?_ (IsS55.ge HI507.out) | refine below_set ?_ GE506.out | refine below_set ?_ GE513.out) | exact HB.out)⟩

/-! ### impl_CrashLog: function 25 -/
abbrev q25_0 : Array Bool := ⟨rl_ [9] false⟩
abbrev q25_1 : Array Bool := ⟨rl_ [3, 1, 1, 4] true⟩
abbrev q25_2 : Array Bool := ⟨rl_ [5, 4] true⟩
abbrev q25_3 : Array Bool := ⟨rl_ [8, 1] true⟩
def impl_CrashLog.nums (s : ByteArray) : List Int := s.data.toList.map (fun b => (b.toNat : Int))
/-- The bytes of a text, of which the last one is turned if there was a tear. -/
def impl_CrashLog.torn (s : List Int) (t : Bool) : List Int := if t = true then s.set (s.length - 1) (255 - s.getD (s.length - 1) 0) else s
theorem impl_CrashLog.nums_get (s : ByteArray) (i : Nat) : (impl_CrashLog.nums s).getD i 0 = ((s.data.toList.getD i 0).toNat : Int) := by
 unfold impl_CrashLog.nums
 simp only [List.getD_eq_getElem?_getD, List.getElem?_map]
 cases s.data.toList[i]? <;> rfl
theorem impl_CrashLog.nums_len (s : ByteArray) : (impl_CrashLog.nums s).length = s.size := by
 unfold impl_CrashLog.nums
 rw [List.length_map]
 rfl
theorem impl_CrashLog.frz (w : World) (e : TypeId) (s : ByteArray) (j : Nat) (hj : j < s.size) : (Lib.bytesWorld w e s).frozen? ⟨w.heap.size, j, none⟩ = false := by
 have : s.data.size = s.size := rfl
 simp [World.frozen?, Lib.bytesWorld_at_new, Lib.bytesCells]
 omega
theorem impl_CrashLog.torn_get (l : List Int) (i : Nat) : (l.set (l.length - 1) (255 - l.getD (l.length - 1) 0)).getD i 0 = if i = l.length - 1 ∧ i < l.length then 255 - l.getD (l.length - 1) 0 else l.getD i 0 := by
 simp only [List.getD_eq_getElem?_getD, List.getElem?_set]
 by_cases h : l.length - 1 = i
 rotate_left
 ·rw [if_neg h, if_neg (fun h2 => h h2.1.symm)]
 subst h
 by_cases h2 : l.length - 1 < l.length
 rotate_left
 ·simp [h2]
 simp [h2]
def impl_CrashLog.f (k : Nat) (a0_0 : ByteArray) (a0_1 : ByteArray) (a0_2 : Int) (a1 : Int) (a2 : Bool) : Option (ByteArray × Bool) := (impl_IsValidLog.f k a0_0 a0_1 a0_2).bind fun b => if b = true then (if 0 ≤ a1 ∧ a1 ≤ (a0_1.size : Int) then (if a0_0.size + a0_1.size ≤ 1000000000 then some (strOfNums (impl_CrashLog.torn (impl_CrashLog.nums (a0_0 ++ a0_1.extract 0 a1.toNat)) (a2 && decide (0 < a1))), true) else none) else some ((⟨#[]⟩ : ByteArray), false)) else some ((⟨#[]⟩ : ByteArray), false)
theorem impl_CrashLog.mono : ∀ a0 a1 a2 a3 a4 k, LeO (impl_CrashLog.f k a0 a1 a2 a3 a4) (impl_CrashLog.f (k + 1) a0 a1 a2 a3 a4) := fun a0 a1 a2 a3 a4 k => LeO.bind (impl_IsValidLog.mono a0 a1 a2 k) (fun _ => LeO.refl _)
set_option maxHeartbeats 1600000 in
set_option maxRecDepth 100000 in
theorem impl_CrashLog.calls (k : Nat) (a0_0 : ByteArray) (a0_1 : ByteArray) (a0_2 : Int) (a1 : Int) (a2 : Bool) (r1 : ByteArray) (r2 : Bool) (w : World) (h : impl_CrashLog.f k a0_0 a0_1 a0_2 a1 a2 = some (r1, r2)) :
  Calls Try.prog 25 #[.agg #[.string a0_0, .string a0_1, .int .i64 a0_2], .int .i64 a1, .bool a2] w fun e w' => e = .returned (.tuple #[.string r1, .bool r2]) ∧ Below w.heap.size w w' := by
 unfold impl_CrashLog.f at h
 obtain ⟨b, hb, h⟩ := Option.bind_eq_some_iff.mp h
 have A1 := Aside0.mk hb
 clear hb
 have HB := Aside0.mk (Below.refl w.heap.size w)
 cases b with
 | false =>
  simp only [Bool.false_eq_true, if_false, Option.some.injEq, Prod.mk.injEq] at h
  obtain ⟨rfl, rfl⟩ := h
  go_enter Try.func25, Try.ntmps25
  go_wp2_with (first | ((with_reducible refine gate_dst (N := 3) rfl ?_); refine box_event ?hg (N := 3) ?hd (cs := #[.string a0_0, .string a0_1, .int .i64 a0_2]) (t := 33) ?hr ?_; (case hd => rfl); (case hg => rfl); (case hr => first | (go_simp; done) | (go_simp; rfl)); intro gb hg w5 hbox hb; have n0_ := Aside0.mk (below_step (bw HB.out) hb); have n1_ := Aside0.mk hbox; replace HB := n0_; have BK := n1_; clear n0_ n1_ hb hbox hg; obtain ⟨hcz0, hcz1, hcz2, hfz0, hfz1, hfz2⟩ := bz3 BK.out) | ((with_reducible refine gate_callee (f := 17) rfl ?_); refine goesL_ (some 10) rfl rfl Try.func17 (by kernel_rfl) rfl #[.agg #[.string a0_0, .string a0_1, .int .i64 a0_2]] rfl (by (try simp only [mA_]); first | done | rfl) ?_; (with_reducible refine (impl_IsValidLog.calls k a0_0 a0_1 a0_2 false _ A1.out).mono ?_); rintro e w9 ⟨rfl, hb⟩; refine ⟨_, rfl, ?_⟩; have n0_ := Aside0.mk (blk_below (bs BK.out) hb); have n1_ := Aside0.mk (below_step (bw HB.out) hb); replace BK := n0_; replace HB := n1_; clear n0_ n1_ hb; obtain ⟨hcz0, hcz1, hcz2, hfz0, hfz1, hfz2⟩ := bz3 BK.out))
  go_ret2
  exact ⟨rfl, HB.out⟩
 | true =>
  rw [if_pos rfl] at h
  by_cases hq : 0 ≤ a1 ∧ a1 ≤ (a0_1.size : Int)
  rotate_left
  ·rw [if_neg hq] at h
   simp only [Option.some.injEq, Prod.mk.injEq] at h
   obtain ⟨rfl, rfl⟩ := h
   have HQ : Aside0 (impl_within.f a1 0 (a0_1.size : Int) = some false) := ⟨by unfold impl_within.f; by_cases h0 : 0 ≤ a1; (rw [if_pos h0, decide_eq_false (by omega)]); (rw [if_neg h0])⟩
   clear hq
   go_enter Try.func25, Try.ntmps25
   go_wp2_with (first | ((with_reducible refine gate_dst (N := 3) rfl ?_); refine box_event ?hg (N := 3) ?hd (cs := #[.string a0_0, .string a0_1, .int .i64 a0_2]) (t := 33) ?hr ?_; (case hd => rfl); (case hg => rfl); (case hr => first | (go_simp; done) | (go_simp; rfl)); intro gb hg w5 hbox hb; have n0_ := Aside0.mk (below_step (bw HB.out) hb); have n1_ := Aside0.mk hbox; replace HB := n0_; have BK := n1_; clear n0_ n1_ hb hbox hg; obtain ⟨hcz0, hcz1, hcz2, hfz0, hfz1, hfz2⟩ := bz3 BK.out) | ((with_reducible refine gate_callee (f := 17) rfl ?_); refine goesL_ (some 10) rfl rfl Try.func17 (by kernel_rfl) rfl #[.agg #[.string a0_0, .string a0_1, .int .i64 a0_2]] rfl (by (try simp only [mA_]); first | done | rfl) ?_; (with_reducible refine (impl_IsValidLog.calls k a0_0 a0_1 a0_2 true _ A1.out).mono ?_); rintro e w9 ⟨rfl, hb⟩; refine ⟨_, rfl, ?_⟩; have n0_ := Aside0.mk (blk_below (bs BK.out) hb); have n1_ := Aside0.mk (below_step (bw HB.out) hb); replace BK := n0_; replace HB := n1_; clear n0_ n1_ hb; obtain ⟨hcz0, hcz1, hcz2, hfz0, hfz1, hfz2⟩ := bz3 BK.out) | (go_at_call 32; (with_reducible refine (impl_within.calls a1 0 (a0_1.size : Int) false _ HQ.out).mono ?_); rintro e w' ⟨rfl, ⟨nd, rfl⟩⟩; have n0_ := Aside0.mk (show (World.drewN w9 nd).heap[gb]? = _ from bs BK.out); have n1_ := Aside0.mk (show Below w.heap.size w (World.drewN w9 nd) from bw HB.out); replace BK := n0_; replace HB := n1_; clear n0_ n1_; generalize World.drewN w9 nd = w12 at BK HB ⊢; obtain ⟨hcz0, hcz1, hcz2, hfz0, hfz1, hfz2⟩ := bz3 BK.out))
   go_ret2
   exact ⟨rfl, HB.out⟩
  rw [if_pos hq] at h
  by_cases hz : a0_0.size + a0_1.size ≤ 1000000000
  rotate_left
  ·rw [if_neg hz] at h
   cases h
  rw [if_pos hz] at h
  simp only [Option.some.injEq, Prod.mk.injEq] at h
  obtain ⟨h1, rfl⟩ := h
  obtain ⟨hq1, hq2⟩ := hq
  have HQ : Aside0 (impl_within.f a1 0 (a0_1.size : Int) = some true) := ⟨by unfold impl_within.f; rw [if_pos hq1, decide_eq_true hq2]⟩
  have b1 := eq_true hq1
  have b2 := eq_true hq2
  have b3 : decide (0 ≤ a1) = true := decide_eq_true hq1
  have b4 : decide (a1 ≤ (a0_1.size : Int)) = true := decide_eq_true hq2
  have b5 := eq_true (show a1.toNat ≤ a0_1.size by omega)
  have b6 : (9223372036854775807 < a0_0.size + a1.toNat) = False := eq_false (by omega)
  have HQ1 := Aside0.mk hq1
  have HQ2 := Aside0.mk hq2
  have HZ := Aside0.mk hz
  have H1 := Aside0.mk h1
  clear h1 hz hq1 hq2
  go_enter Try.func25, Try.ntmps25
  go_wp2_with (first | ((with_reducible refine gate_dst (N := 3) rfl ?_); refine box_event ?hg (N := 3) ?hd (cs := #[.string a0_0, .string a0_1, .int .i64 a0_2]) (t := 33) ?hr ?_; (case hd => rfl); (case hg => rfl); (case hr => first | (go_simp; done) | (go_simp; rfl)); intro gb hg w5 hbox hb; have n0_ := Aside0.mk (below_step (bw HB.out) hb); have n1_ := Aside0.mk hbox; replace HB := n0_; have BK := n1_; clear n0_ n1_ hb hbox hg; obtain ⟨hcz0, hcz1, hcz2, hfz0, hfz1, hfz2⟩ := bz3 BK.out) | ((with_reducible refine gate_callee (f := 17) rfl ?_); refine goesL_ (some 10) rfl rfl Try.func17 (by kernel_rfl) rfl #[.agg #[.string a0_0, .string a0_1, .int .i64 a0_2]] rfl (by (try simp only [mA_]); first | done | rfl) ?_; (with_reducible refine (impl_IsValidLog.calls k a0_0 a0_1 a0_2 true _ A1.out).mono ?_); rintro e w9 ⟨rfl, hb⟩; refine ⟨_, rfl, ?_⟩; have n0_ := Aside0.mk (blk_below (bs BK.out) hb); have n1_ := Aside0.mk (below_step (bw HB.out) hb); replace BK := n0_; replace HB := n1_; clear n0_ n1_ hb; obtain ⟨hcz0, hcz1, hcz2, hfz0, hfz1, hfz2⟩ := bz3 BK.out) | (go_at_call 32; (with_reducible refine (impl_within.calls a1 0 (a0_1.size : Int) true _ HQ.out).mono ?_); rintro e w' ⟨rfl, ⟨nd, rfl⟩⟩; have n0_ := Aside0.mk (show (World.drewN w9 nd).heap[gb]? = _ from bs BK.out); have n1_ := Aside0.mk (show Below w.heap.size w (World.drewN w9 nd) from bw HB.out); replace BK := n0_; replace HB := n1_; clear n0_ n1_; generalize World.drewN w9 nd = w12 at BK HB ⊢; obtain ⟨hcz0, hcz1, hcz2, hfz0, hfz1, hfz2⟩ := bz3 BK.out))
  have n0 := Aside0.mk (show w12.drew.heap[gb]? = _ from bs BK.out)
  have n1 := Aside0.mk (below_drew1 HB.out)
  replace BK := n0
  replace HB := n1
  clear n0 n1
  refine start_ (n := 9) (S := fun w' => w'.cell? ⟨gb, 0, none⟩ = some (.string a0_0) ∧ w'.cell? ⟨gb, 1, none⟩ = some (.string a0_1)) (ds := [7]) q25_0 (by kernel_rfl) rfl rfl ⟨(blk_cell BK.out 0).trans rfl, (blk_cell BK.out 1).trans rfl⟩ (fun hHeld => ?_)
  generalize w12.drew = w13 at BK HB hHeld ⊢
  refine puq_ (i := 0) (N := some 20) rfl rfl (by kernel_rfl) (fun _ _ _ h => h) (Or.inl ⟨by rfl, by intro w'; go_simp; with_reducible rfl⟩) (by simp only [aq_]; rfl) ?_
  refine puq_ (i := 2) (N := some 22) rfl rfl (by kernel_rfl) (fun _ _ _ h => h) (Or.inl ⟨by rfl, by intro w'; go_simp; with_reducible rfl⟩) (by simp only [aq_]; rfl) ?_
  refine puq_ (i := 4) (N := some 24) rfl rfl (by kernel_rfl) (fun _ _ _ h => h) (Or.inl ⟨by rfl, by intro w'; go_simp; with_reducible rfl⟩) (by simp only [aq_]; rfl) ?_
  refine take_ (i := 1) (N := some 21) (v := ?_) (a' := ?_) q25_1 rfl rfl (by kernel_rfl) (fun _ _ _ h => h) (Or.inl ⟨by rfl, ?_⟩) hHeld ?_ ?_
  rotate_left
  ·rintro w' ⟨s0, s1⟩
   go_simp
   with_reducible rfl
  rotate_left
  ·simp only [aq_]
   rfl
  refine take_ (i := 3) (N := some 23) (v := ?_) (a' := ?_) q25_2 rfl rfl (by kernel_rfl) (fun _ _ _ h => h) (Or.inl ⟨by rfl, ?_⟩) hHeld ?_ ?_
  rotate_left
  ·rintro w' ⟨s0, s1⟩
   go_simp
   with_reducible rfl
  rotate_left
  ·simp only [aq_]
   rfl
  refine puq_ (i := 5) (N := some 25) rfl rfl (by kernel_rfl) (fun _ _ _ h => h) (Or.inl ⟨by rfl, by intro w'; go_simp; with_reducible rfl⟩) (by simp only [aq_]; rfl) ?_
  refine puq_ (i := 6) (N := some 26) rfl rfl (by kernel_rfl) (fun _ _ _ h => h) (Or.inl ⟨by rfl, by intro w'; go_simp; with_reducible rfl⟩) (by simp only [aq_]; rfl) ?_
  have kc := Lib.run_convert_string_bytes (P := Try.prog) w13 9 22 5 (a0_0 ++ a0_1.extract 0 a1.toNat) Try.underlying9 Try.underlying22 Try.underlying5
  refine last_ (i := 7) (N := some 27) q25_3 rfl rfl (by kernel_rfl) (by decide) (fun K hK => ?_)
  refine value_ (w1 := ?_) (v := ?_) (by rfl) rfl ?_ ?_
  rotate_left 2
  ·go_simp
   constructor
   ·rfl
   ·rfl
  have hsz : (a0_0 ++ a0_1.extract 0 a1.toNat).size = a0_0.size + a1.toNat := by rw [ByteArray.size_append, ByteArray.size_extract]; have := HQ1.out; have := HQ2.out; omega
  have HCL : Aside0 (∀ j, j < a0_0.size + a1.toNat → (Lib.bytesWorld w13 5 (a0_0 ++ a0_1.extract 0 a1.toNat)).cell? ⟨w13.heap.size, j, none⟩ = some (.int .u8 ((impl_CrashLog.nums (a0_0 ++ a0_1.extract 0 a1.toNat)).getD j 0))) := ⟨fun j hj => by rw [impl_CrashLog.nums_get]; exact Lib.bytesWorld_cell _ _ _ j (by rw [hsz]; exact hj)⟩
  have HFZ : Aside0 (∀ j, j < a0_0.size + a1.toNat → (Lib.bytesWorld w13 5 (a0_0 ++ a0_1.extract 0 a1.toNat)).frozen? ⟨w13.heap.size, j, none⟩ = false) := ⟨fun j hj => impl_CrashLog.frz _ _ _ j (by rw [hsz]; exact hj)⟩
  have HNL : Aside0 ((impl_CrashLog.nums (a0_0 ++ a0_1.extract 0 a1.toNat)).length = a0_0.size + a1.toNat) := ⟨by rw [impl_CrashLog.nums_len, hsz]⟩
  have HG : Aside0 (w.heap.size ≤ w13.heap.size) := ⟨below_size HB.out⟩
  have n1 := Aside0.mk (bytes_below HB.out (below_size HB.out) 5 (a0_0 ++ a0_1.extract 0 a1.toNat))
  replace HB := n1
  clear n1 kc hsz BK hcz0 hcz1 hcz2 hfz0 hfz1 hfz2
  have HNB : Aside0 (a1.toNat ≤ a0_0.size + a1.toNat ∧ a0_0.size + a1.toNat ≤ 1000000000) := ⟨by have := HQ1.out; have := HQ2.out; have := HZ.out; omega⟩
  have HXB : Aside0 (∀ j, 0 ≤ (impl_CrashLog.nums (a0_0 ++ a0_1.extract 0 a1.toNat)).getD j 0 ∧ (impl_CrashLog.nums (a0_0 ++ a0_1.extract 0 a1.toNat)).getD j 0 ≤ 255) := ⟨fun j => by rw [impl_CrashLog.nums_get]; have := ((a0_0 ++ a0_1.extract 0 a1.toNat).data.toList.getD j 0).toNat_lt; omega⟩
  refine hK.out _ _ ?_
  clear hK K
  refine norm_ (a' := ?_) ?_ ?_
  rotate_left
  ·show Act.put _ (some 27) _ = _
   simp only [aq_]
   rfl
  refine puq_ (i := 8) (N := some 8) rfl rfl (by kernel_rfl) (fun _ _ _ h => h) (Or.inl ⟨by rfl, by intro w'; go_simp; with_reducible rfl⟩) (by simp only [aq_]; rfl) ?_
  refine done_ (by kernel_rfl) ?_
  generalize grownCap w13 (a0_0.size + a1.toNat) 0 5 = cap
  generalize w13.heap.size = g at HCL HFZ HG ⊢
  generalize Lib.bytesWorld w13 5 (a0_0 ++ a0_1.extract 0 a1.toNat) = W at HCL HFZ HB ⊢
  generalize impl_CrashLog.nums (a0_0 ++ a0_1.extract 0 a1.toNat) = xs at HCL HNL H1 HXB
  generalize a0_0.size + a1.toNat = n at HCL HFZ HNL HNB ⊢
  clear b1 b2 b3 b4 b5 b6
  by_cases ht : (a2 && decide (0 < a1)) = true
  rotate_left
  ·have ht' : (a2 && decide (0 < a1)) = false := by simpa using ht
   have H2 := H1.out
   rw [ht'] at H2
   have H3 : Aside0 (strOfNums xs = r1) := ⟨H2⟩
   clear H2 H1 ht
   have kc2 := run_convert_bytes_arg (P := Try.prog) W 22 5 Try.underlying22 Try.underlying5 g 0 n cap xs HNL.out (fun i hi => by rw [Nat.zero_add]; exact HCL.out i hi) 9 Try.underlying9
   rw [H3.out] at kc2
   cases a2 with
   | false =>
    clear ht'
    go_wp2
    go_ret2
    exact ⟨rfl, HB.out⟩
   | true =>
    rw [Bool.true_and] at ht'
    have c1 : decide ((0 : Int) < a1) = false := ht'
    clear ht'
    go_wp2
    go_ret2
    exact ⟨rfl, HB.out⟩
  have H2 := H1.out
  rw [ht] at H2
  have H3 : Aside0 (strOfNums (xs.set (xs.length - 1) (255 - xs.getD (xs.length - 1) 0)) = r1) := ⟨H2⟩
  rw [HNL.out] at H3
  clear H2 H1
  rw [Bool.and_eq_true, decide_eq_true_eq] at ht
  obtain ⟨rfl, hpos⟩ := ht
  have c1 : decide ((0 : Int) < a1) = true := decide_eq_true hpos
  have hn1 : 1 ≤ n := by have := HNB.out; omega
  have hx1 := HCL.out (n - 1) (by omega)
  have hf1 := HFZ.out (n - 1) (by omega)
  have hxb := HXB.out (n - 1)
  have HXS : Aside0 ((xs.set (n - 1) (255 - xs.getD (n - 1) 0)).length = n) := ⟨by rw [List.length_set]; exact HNL.out⟩
  have HCS : Aside0 (∀ i, i < n → (W.setCell ⟨g, n - 1, none⟩ (.int .u8 (255 - xs.getD (n - 1) 0))).cell? ⟨g, 0 + i, none⟩ = some (.int .u8 ((xs.set (n - 1) (255 - xs.getD (n - 1) 0)).getD i 0))) := ⟨fun i hi => by
   have h1 := impl_CrashLog.torn_get xs i
   rw [HNL.out] at h1
   rw [h1, Nat.zero_add]
   by_cases e : i = n - 1
   ·subst e
    rw [if_pos ⟨rfl, hi⟩]
    exact World.cell?_setCell_same' _ _ _ (by rw [hx1]; rfl)
   rw [if_neg (fun h => e h.1), ← HCL.out i hi]
   apply World.cell?_setCell_other
   exact fun h => e (by have := (Addr.mk.inj h).2.1; omega)⟩
  have kc2 := run_convert_bytes_arg (P := Try.prog) (W.setCell ⟨g, n - 1, none⟩ (.int .u8 (255 - xs.getD (n - 1) 0))) 22 5 Try.underlying22 Try.underlying5 g 0 n cap _ HXS.out HCS.out 9 Try.underlying9
  rw [H3.out] at kc2
  generalize xs.getD (n - 1) 0 = x at hx1 hxb kc2
  have hw8 : IntKind.u8.wrap (255 - x) = 255 - x := by rw [IntKind.wrap_u8]; omega
  have hwn : wrap64 ((n : Int) - 1) = ((n - 1 : Nat) : Int) := by have := HNB.out; unfold wrap64; omega
  have hwn2 : IntKind.i64.wrap ((n : Int) - 1) = ((n - 1 : Nat) : Int) := (i64_w _).trans hwn
  have i1 := eq_true (show (0 : Int) ≤ ((n - 1 : Nat) : Int) by omega)
  have i2 := eq_true (show ((n - 1 : Nat) : Int) < (n : Int) by omega)
  have i3 := eq_true (show n - 1 < n by omega)
  clear hn1 hxb hpos
  go_wp2
  go_ret2
  exact ⟨rfl, below_set HB.out HG.out⟩

/-! ### spec_CrashLog: function 26 -/
def spec_CrashLog.nums (s : ByteArray) : List Int := s.data.toList.map (fun b => (b.toNat : Int))
/-- The bytes of a text, of which the last one is turned if there was a tear. -/
def spec_CrashLog.torn (s : List Int) (t : Bool) : List Int := if t = true then s.set (s.length - 1) (255 - s.getD (s.length - 1) 0) else s
theorem spec_CrashLog.nums_get (s : ByteArray) (i : Nat) : (spec_CrashLog.nums s).getD i 0 = ((s.data.toList.getD i 0).toNat : Int) := by
 unfold spec_CrashLog.nums
 simp only [List.getD_eq_getElem?_getD, List.getElem?_map]
 cases s.data.toList[i]? <;> rfl
theorem spec_CrashLog.nums_len (s : ByteArray) : (spec_CrashLog.nums s).length = s.size := by
 unfold spec_CrashLog.nums
 rw [List.length_map]
 rfl
theorem spec_CrashLog.frz (w : World) (e : TypeId) (s : ByteArray) (j : Nat) (hj : j < s.size) : (Lib.bytesWorld w e s).frozen? ⟨w.heap.size, j, none⟩ = false := by
 have : s.data.size = s.size := rfl
 simp [World.frozen?, Lib.bytesWorld_at_new, Lib.bytesCells]
 omega
theorem spec_CrashLog.torn_get (l : List Int) (i : Nat) : (l.set (l.length - 1) (255 - l.getD (l.length - 1) 0)).getD i 0 = if i = l.length - 1 ∧ i < l.length then 255 - l.getD (l.length - 1) 0 else l.getD i 0 := by
 simp only [List.getD_eq_getElem?_getD, List.getElem?_set]
 by_cases h : l.length - 1 = i
 rotate_left
 ·rw [if_neg h, if_neg (fun h2 => h h2.1.symm)]
 subst h
 by_cases h2 : l.length - 1 < l.length
 rotate_left
 ·simp [h2]
 simp [h2]
def spec_CrashLog.f (k : Nat) (a0_0 : ByteArray) (a0_1 : ByteArray) (a0_2 : Int) (a1 : Int) (a2 : Bool) : Option (ByteArray × Bool) := (spec_l12Valid.f k a0_0 a0_1 a0_2).bind fun b => if b = true then (if 0 ≤ a1 ∧ a1 ≤ (a0_1.size : Int) then (if a0_0.size + a0_1.size ≤ 1000000000 then some (a0_0 ++ strOfNums (spec_CrashLog.torn (spec_CrashLog.nums (a0_1.extract 0 a1.toNat)) (a2 && decide (0 < a1))), true) else none) else some ((⟨#[]⟩ : ByteArray), false)) else some ((⟨#[]⟩ : ByteArray), false)
theorem spec_CrashLog.mono : ∀ a0 a1 a2 a3 a4 k, LeO (spec_CrashLog.f k a0 a1 a2 a3 a4) (spec_CrashLog.f (k + 1) a0 a1 a2 a3 a4) := fun a0 a1 a2 a3 a4 k => LeO.bind (spec_l12Valid.mono a0 a1 a2 k) (fun _ => LeO.refl _)
set_option maxHeartbeats 1600000 in
set_option maxRecDepth 100000 in
theorem spec_CrashLog.calls (k : Nat) (a0_0 : ByteArray) (a0_1 : ByteArray) (a0_2 : Int) (a1 : Int) (a2 : Bool) (r1 : ByteArray) (r2 : Bool) (w : World) (h : spec_CrashLog.f k a0_0 a0_1 a0_2 a1 a2 = some (r1, r2)) :
  Calls Try.prog 26 #[.agg #[.string a0_0, .string a0_1, .int .i64 a0_2], .int .i64 a1, .bool a2] w fun e w' => e = .returned (.tuple #[.string r1, .bool r2]) ∧ Below w.heap.size w w' := by
 unfold spec_CrashLog.f at h
 obtain ⟨b, hb, h⟩ := Option.bind_eq_some_iff.mp h
 have A1 := Aside0.mk hb
 clear hb
 have HB := Aside0.mk (Below.refl w.heap.size w)
 cases b with
 | false =>
  simp only [Bool.false_eq_true, if_false, Option.some.injEq, Prod.mk.injEq] at h
  obtain ⟨rfl, rfl⟩ := h
  go_enter Try.func26, Try.ntmps26
  go_wp2_with (first | ((with_reducible refine gate_dst (N := 3) rfl ?_); refine box_event ?hg (N := 3) ?hd (cs := #[.string a0_0, .string a0_1, .int .i64 a0_2]) (t := 33) ?hr ?_; (case hd => rfl); (case hg => rfl); (case hr => first | (go_simp; done) | (go_simp; rfl)); intro gb hg w5 hbox hb; have n0_ := Aside0.mk (below_step (bw HB.out) hb); have n1_ := Aside0.mk hbox; replace HB := n0_; have BK := n1_; clear n0_ n1_ hb hbox hg; obtain ⟨hcz0, hcz1, hcz2, hfz0, hfz1, hfz2⟩ := bz3 BK.out) | ((with_reducible refine gate_callee (f := 41) rfl ?_); refine goesL_ (some 10) rfl rfl Try.func41 (by kernel_rfl) rfl #[.agg #[.string a0_0, .string a0_1, .int .i64 a0_2]] rfl (by (try simp only [mA_]); first | done | rfl) ?_; (with_reducible refine (spec_l12Valid.calls k a0_0 a0_1 a0_2 false _ A1.out).mono ?_); rintro e w9 ⟨rfl, hb⟩; refine ⟨_, rfl, ?_⟩; have n0_ := Aside0.mk (blk_below (bs BK.out) hb); have n1_ := Aside0.mk (below_step (bw HB.out) hb); replace BK := n0_; replace HB := n1_; clear n0_ n1_ hb; obtain ⟨hcz0, hcz1, hcz2, hfz0, hfz1, hfz2⟩ := bz3 BK.out))
  go_ret2
  exact ⟨rfl, HB.out⟩
 | true =>
  rw [if_pos rfl] at h
  by_cases hq : 0 ≤ a1 ∧ a1 ≤ (a0_1.size : Int)
  rotate_left
  ·rw [if_neg hq] at h
   simp only [Option.some.injEq, Prod.mk.injEq] at h
   obtain ⟨rfl, rfl⟩ := h
   have HQ : Aside0 (spec_l1In.f a1 0 (a0_1.size : Int) = some false) := ⟨by unfold spec_l1In.f; by_cases h0 : a1 ≥ 0; (rw [if_pos h0, decide_eq_false (by omega)]); (rw [if_neg h0])⟩
   clear hq
   go_enter Try.func26, Try.ntmps26
   go_wp2_with (first | ((with_reducible refine gate_dst (N := 3) rfl ?_); refine box_event ?hg (N := 3) ?hd (cs := #[.string a0_0, .string a0_1, .int .i64 a0_2]) (t := 33) ?hr ?_; (case hd => rfl); (case hg => rfl); (case hr => first | (go_simp; done) | (go_simp; rfl)); intro gb hg w5 hbox hb; have n0_ := Aside0.mk (below_step (bw HB.out) hb); have n1_ := Aside0.mk hbox; replace HB := n0_; have BK := n1_; clear n0_ n1_ hb hbox hg; obtain ⟨hcz0, hcz1, hcz2, hfz0, hfz1, hfz2⟩ := bz3 BK.out) | ((with_reducible refine gate_callee (f := 41) rfl ?_); refine goesL_ (some 10) rfl rfl Try.func41 (by kernel_rfl) rfl #[.agg #[.string a0_0, .string a0_1, .int .i64 a0_2]] rfl (by (try simp only [mA_]); first | done | rfl) ?_; (with_reducible refine (spec_l12Valid.calls k a0_0 a0_1 a0_2 true _ A1.out).mono ?_); rintro e w9 ⟨rfl, hb⟩; refine ⟨_, rfl, ?_⟩; have n0_ := Aside0.mk (blk_below (bs BK.out) hb); have n1_ := Aside0.mk (below_step (bw HB.out) hb); replace BK := n0_; replace HB := n1_; clear n0_ n1_ hb; obtain ⟨hcz0, hcz1, hcz2, hfz0, hfz1, hfz2⟩ := bz3 BK.out) | (go_at_call 35; (with_reducible refine (spec_l1In.calls a1 0 (a0_1.size : Int) false _ HQ.out).mono ?_); rintro e w' ⟨rfl, ⟨nd, rfl⟩⟩; have n0_ := Aside0.mk (show (World.drewN w9 nd).heap[gb]? = _ from bs BK.out); have n1_ := Aside0.mk (show Below w.heap.size w (World.drewN w9 nd) from bw HB.out); replace BK := n0_; replace HB := n1_; clear n0_ n1_; generalize World.drewN w9 nd = w12 at BK HB ⊢; obtain ⟨hcz0, hcz1, hcz2, hfz0, hfz1, hfz2⟩ := bz3 BK.out))
   go_ret2
   exact ⟨rfl, HB.out⟩
  rw [if_pos hq] at h
  by_cases hz : a0_0.size + a0_1.size ≤ 1000000000
  rotate_left
  ·rw [if_neg hz] at h
   cases h
  rw [if_pos hz] at h
  simp only [Option.some.injEq, Prod.mk.injEq] at h
  obtain ⟨h1, rfl⟩ := h
  obtain ⟨hq1, hq2⟩ := hq
  obtain ⟨n, rfl⟩ : ∃ n : Nat, a1 = (n : Int) := ⟨a1.toNat, by omega⟩
  rw [Int.toNat_natCast] at h1
  have hq3 : n ≤ a0_1.size := by omega
  have HQ : Aside0 (spec_l1In.f (n : Int) 0 (a0_1.size : Int) = some true) := ⟨by unfold spec_l1In.f; rw [if_pos (show (n : Int) ≥ 0 by omega), decide_eq_true hq2]⟩
  have b1 := eq_true hq1
  have b2 := eq_true hq2
  have b3 : decide (0 ≤ (n : Int)) = true := decide_eq_true hq1
  have b4 : decide ((n : Int) ≤ (a0_1.size : Int)) = true := decide_eq_true hq2
  have b5 := eq_true hq3
  have HQ3 := Aside0.mk hq3
  have HZ := Aside0.mk hz
  have H1 := Aside0.mk h1
  clear h1 hz hq1 hq2 hq3
  have kc := fun (W : World) => Lib.run_convert_string_bytes (P := Try.prog) W 9 22 5 (a0_1.extract 0 n) Try.underlying9 Try.underlying22 Try.underlying5
  go_enter Try.func26, Try.ntmps26
  go_upto_region 4 with (first | ((with_reducible refine gate_dst (N := 3) rfl ?_); refine box_event ?hg (N := 3) ?hd (cs := #[.string a0_0, .string a0_1, .int .i64 a0_2]) (t := 33) ?hr ?_; (case hd => rfl); (case hg => rfl); (case hr => first | (go_simp; done) | (go_simp; rfl)); intro gb hg w5 hbox hb; have n0_ := Aside0.mk (below_step (bw HB.out) hb); have n1_ := Aside0.mk hbox; replace HB := n0_; have BK := n1_; clear n0_ n1_ hb hbox hg; obtain ⟨hcz0, hcz1, hcz2, hfz0, hfz1, hfz2⟩ := bz3 BK.out) | ((with_reducible refine gate_callee (f := 41) rfl ?_); refine goesL_ (some 10) rfl rfl Try.func41 (by kernel_rfl) rfl #[.agg #[.string a0_0, .string a0_1, .int .i64 a0_2]] rfl (by (try simp only [mA_]); first | done | rfl) ?_; (with_reducible refine (spec_l12Valid.calls k a0_0 a0_1 a0_2 true _ A1.out).mono ?_); rintro e w9 ⟨rfl, hb⟩; refine ⟨_, rfl, ?_⟩; have n0_ := Aside0.mk (blk_below (bs BK.out) hb); have n1_ := Aside0.mk (below_step (bw HB.out) hb); replace BK := n0_; replace HB := n1_; clear n0_ n1_ hb; obtain ⟨hcz0, hcz1, hcz2, hfz0, hfz1, hfz2⟩ := bz3 BK.out) | (go_at_call 35; (with_reducible refine (spec_l1In.calls (n : Int) 0 (a0_1.size : Int) true _ HQ.out).mono ?_); rintro e w' ⟨rfl, ⟨nd, rfl⟩⟩; have n0_ := Aside0.mk (show (World.drewN w9 nd).heap[gb]? = _ from bs BK.out); have n1_ := Aside0.mk (show Below w.heap.size w (World.drewN w9 nd) from bw HB.out); replace BK := n0_; replace HB := n1_; clear n0_ n1_; generalize World.drewN w9 nd = w12 at BK HB ⊢; obtain ⟨hcz0, hcz1, hcz2, hfz0, hfz1, hfz2⟩ := bz3 BK.out))
  have hsz : (a0_1.extract 0 n).size = n := by rw [ByteArray.size_extract]; have := HQ3.out; omega
  have HCL : Aside0 (∀ j, j < n → (Lib.bytesWorld w12 5 (a0_1.extract 0 n)).cell? ⟨w12.heap.size, j, none⟩ = some (.int .u8 ((spec_CrashLog.nums (a0_1.extract 0 n)).getD j 0))) := ⟨fun j hj => by rw [spec_CrashLog.nums_get]; exact Lib.bytesWorld_cell _ _ _ j (by rw [hsz]; exact hj)⟩
  have HFZ : Aside0 (∀ j, j < n → (Lib.bytesWorld w12 5 (a0_1.extract 0 n)).frozen? ⟨w12.heap.size, j, none⟩ = false) := ⟨fun j hj => spec_CrashLog.frz _ _ _ j (by rw [hsz]; exact hj)⟩
  have HNL : Aside0 ((spec_CrashLog.nums (a0_1.extract 0 n)).length = n) := ⟨by rw [spec_CrashLog.nums_len, hsz]⟩
  have HG : Aside0 (w.heap.size ≤ w12.heap.size) := ⟨below_size HB.out⟩
  have hgl := blk_lt BK.out
  have hne : gb ≠ w12.heap.size := by omega
  have hc0 : (Lib.bytesWorld w12 5 (a0_1.extract 0 n)).cell? ⟨gb, 0, none⟩ = some (.string a0_0) := (Lib.bytesWorld_old _ _ _ ⟨gb, 0, none⟩ hgl).trans hcz0
  have n1 := Aside0.mk (bytes_below HB.out (below_size HB.out) 5 (a0_1.extract 0 n))
  replace HB := n1
  have HXB : Aside0 (∀ j, 0 ≤ (spec_CrashLog.nums (a0_1.extract 0 n)).getD j 0 ∧ (spec_CrashLog.nums (a0_1.extract 0 n)).getD j 0 ≤ 255) := ⟨fun j => by rw [spec_CrashLog.nums_get]; have := ((a0_1.extract 0 n).data.toList.getD j 0).toNat_lt; omega⟩
  have HNB : Aside0 (n ≤ 1000000000 ∧ a0_0.size ≤ 1000000000) := ⟨by have := HQ3.out; have := HZ.out; omega⟩
  clear n1 kc hsz hgl BK hcz0 hcz1 hcz2 hfz0 hfz1 hfz2
  generalize grownCap w12 n 0 5 = cap
  generalize w12.heap.size = g at HCL HFZ HG hne ⊢
  generalize Lib.bytesWorld w12 5 (a0_1.extract 0 n) = W at HCL HFZ HB hc0 ⊢
  generalize spec_CrashLog.nums (a0_1.extract 0 n) = xs at HCL HNL H1 HXB
  have HSL : Aside0 (∀ l : List Int, l.length = n → (strOfNums l).size = n) := ⟨fun l hl => by rw [strOfNums_size]; exact hl⟩
  clear b1 b2 b3 b4 b5
  by_cases ht : (a2 && decide (0 < (n : Int))) = true
  rotate_left
  ·have ht' : (a2 && decide (0 < (n : Int))) = false := by simpa using ht
   have H2 := H1.out
   rw [ht'] at H2
   have H3 : Aside0 (a0_0 ++ strOfNums xs = r1) := ⟨H2⟩
   clear H2 H1 ht
   have kc2 := run_convert_bytes_arg (P := Try.prog) W 22 5 Try.underlying22 Try.underlying5 g 0 n cap xs HNL.out (fun i hi => by rw [Nat.zero_add]; exact HCL.out i hi) 9 Try.underlying9
   have hL := HSL.out _ (HNL.out)
   generalize strOfNums xs = z at kc2 H3 hL
   have H3o := H3.out
   have hL2 : (9223372036854775807 < a0_0.size + z.size) = False := eq_false (by have := HNB.out; omega)
   have hL3 : (9223372036854775807 < a0_0.size + n) = False := eq_false (by have := HNB.out; omega)
   cases a2 with
   | false =>
    clear ht'
    go_wp2
    go_ret2
    exact ⟨rfl, HB.out⟩
   | true =>
    rw [Bool.true_and] at ht'
    have c1 : decide ((0 : Int) < (n : Int)) = false := ht'
    have c1n : decide (0 < n) = false := decide_eq_false (by have := of_decide_eq_false ht'; omega)
    clear ht'
    go_wp2
    go_ret2
    exact ⟨rfl, HB.out⟩
  have H2 := H1.out
  rw [ht] at H2
  have H3 : Aside0 (a0_0 ++ strOfNums (xs.set (xs.length - 1) (255 - xs.getD (xs.length - 1) 0)) = r1) := ⟨H2⟩
  rw [HNL.out] at H3
  clear H2 H1
  rw [Bool.and_eq_true, decide_eq_true_eq] at ht
  obtain ⟨rfl, hpos⟩ := ht
  have c1 : decide ((0 : Int) < (n : Int)) = true := decide_eq_true hpos
  have c1n : decide (0 < n) = true := decide_eq_true (by omega)
  have hn1 : 1 ≤ n := by have := HNB.out; omega
  have hx1 := HCL.out (n - 1) (by omega)
  have hf1 := HFZ.out (n - 1) (by omega)
  have hxb := HXB.out (n - 1)
  have HXS : Aside0 ((xs.set (n - 1) (255 - xs.getD (n - 1) 0)).length = n) := ⟨by rw [List.length_set]; exact HNL.out⟩
  have HCS : Aside0 (∀ i, i < n → (W.setCell ⟨g, n - 1, none⟩ (.int .u8 (255 - xs.getD (n - 1) 0))).cell? ⟨g, 0 + i, none⟩ = some (.int .u8 ((xs.set (n - 1) (255 - xs.getD (n - 1) 0)).getD i 0))) := ⟨fun i hi => by
   have h1 := spec_CrashLog.torn_get xs i
   rw [HNL.out] at h1
   rw [h1, Nat.zero_add]
   by_cases e : i = n - 1
   ·subst e
    rw [if_pos ⟨rfl, hi⟩]
    exact World.cell?_setCell_same' _ _ _ (by rw [hx1]; rfl)
   rw [if_neg (fun h => e h.1), ← HCL.out i hi]
   apply World.cell?_setCell_other
   exact fun h => e (by have := (Addr.mk.inj h).2.1; omega)⟩
  have kc2 := run_convert_bytes_arg (P := Try.prog) (W.setCell ⟨g, n - 1, none⟩ (.int .u8 (255 - xs.getD (n - 1) 0))) 22 5 Try.underlying22 Try.underlying5 g 0 n cap _ HXS.out HCS.out 9 Try.underlying9
  have hL := HSL.out _ (HXS.out)
  generalize strOfNums (xs.set (n - 1) (255 - xs.getD (n - 1) 0)) = z at kc2 H3 hL
  have H3o := H3.out
  have hL2 : (9223372036854775807 < a0_0.size + z.size) = False := eq_false (by have := HNB.out; omega)
  have hL3 : (9223372036854775807 < a0_0.size + n) = False := eq_false (by have := HNB.out; omega)
  generalize xs.getD (n - 1) 0 = x at hx1 hxb kc2
  have hw8 : IntKind.u8.wrap (255 - x) = 255 - x := by rw [IntKind.wrap_u8]; omega
  have hwn : wrap64 ((n : Int) - 1) = ((n - 1 : Nat) : Int) := by have := HNB.out; unfold wrap64; omega
  have hwn2 : IntKind.i64.wrap ((n : Int) - 1) = ((n - 1 : Nat) : Int) := (i64_w _).trans hwn
  have i1 := eq_true (show (0 : Int) ≤ ((n - 1 : Nat) : Int) by omega)
  have i2 := eq_true (show ((n - 1 : Nat) : Int) < (n : Int) by omega)
  have i3 := eq_true (show n - 1 < n by omega)
  clear hn1 hxb hpos
  go_wp2
  go_ret2
  exact ⟨rfl, below_set HB.out HG.out⟩

/-! ### spec_DrawRecoverLog: function 27 -/
def spec_DrawRecoverLog.j0 : Nat → ByteArray → List Int → Int → Int → Option (ByteArray)
 | 0, _, _, _, _ => none
 | k + 1, x5, x521000, x521001, x521002 => (spec_l1Cur_one.f x521000 x521001 x521002 40).bind fun bt544 => (if bt544.1 = true then ((spec_l1Cur_pick.f x521000 bt544.2.1 bt544.2.2 2).bind fun bt547 => (if 0 ≤ (wrap64 (30000 + bt547.1)) then (if (wrap64 (30000 + bt547.1) : Int).toNat ≤ 281474976710656 then (some (strOfNums (List.replicate (wrap64 (30000 + bt547.1) : Int).toNat 0))) else (none)) else (none))) else (some x5))
def spec_DrawRecoverLog.f (k : Nat) (l0 : List Int) : Option (ByteArray) := (spec_l1Cur_log12.f k l0 0 0).bind fun bt521 => (if bt521.1.size + bt521.2.1.size ≤ 9223372036854775807 then ((spec_l1Cur_pick.f l0 bt521.2.2.2.1 bt521.2.2.2.2 4).bind fun bt527 => (if bt527.1 = 0 then ((spec_l1Cur_spoilt.f l0 bt527.2.1 bt527.2.2 (bt521.1 ++ bt521.2.1) (⟨#[35, 64, 10, 48, 49]⟩ : ByteArray)).bind fun bt530 => (spec_DrawRecoverLog.j0 k bt530.1 l0 bt530.2.1 bt530.2.2)) else (if bt527.1 = 1 then ((spec_l1Cur_pick.f l0 bt527.2.1 bt527.2.2 (wrap64 (((bt521.1.size : Int) + (bt521.2.1.size : Int)) + 1))).bind fun bt533 => (if 0 ≤ bt533.1 then (if bt533.1 ≤ ((bt521.1.size : Int) + (bt521.2.1.size : Int)) then (spec_DrawRecoverLog.j0 k ((bt521.1 ++ bt521.2.1).extract 0 (bt533.1 : Int).toNat) l0 bt533.2.1 bt533.2.2) else (none)) else (none))) else (if bt527.1 = 2 then ((spec_l1Cur_pick.f l0 bt527.2.1 bt527.2.2 4).bind fun bt536 => ((spec_l1Cur_logRecord.f l0 bt536.2.1 bt536.2.2).bind fun bt539 => ((spec_l12Line.f k bt536.1 bt539.1 bt539.2.1).bind fun t543 => (if bt521.1.size + bt521.2.1.size + t543.size ≤ 9223372036854775807 then (spec_DrawRecoverLog.j0 k ((bt521.1 ++ bt521.2.1) ++ t543) l0 bt539.2.2.1 bt539.2.2.2) else (none))))) else (spec_DrawRecoverLog.j0 k (bt521.1 ++ bt521.2.1) l0 bt527.2.1 bt527.2.2))))) else (none))
theorem spec_DrawRecoverLog.mono_l : ∀ k, (∀ y0 y1 y2 y3, LeO (spec_DrawRecoverLog.j0 k y0 y1 y2 y3) (spec_DrawRecoverLog.j0 (k + 1) y0 y1 y2 y3))
 | 0 => fun _ _ _ _ r h => by simp [spec_DrawRecoverLog.j0] at h
 | k + 1 => by
  have ih0 := spec_DrawRecoverLog.mono_l k
  ·intro y0 y1 y2 y3
   unfold spec_DrawRecoverLog.j0
   repeat' first
   | (with_reducible exact ih0 _ _ _ _)
   | (with_reducible exact spec_l12Line.mono _ _ _ _)
   | (with_reducible exact spec_l1Cur_log12.mono _ _ _ _)
   | (with_reducible exact LeO.refl _)
   | (with_reducible exact LeO.none _)
   | (with_reducible refine LeO.ite ?_ ?_)
   | (with_reducible refine LeO.bind ?_ (fun _ => ?_))
   | exact ih0 _ _ _ _
   | exact spec_l12Line.mono _ _ _ _
   | exact spec_l1Cur_log12.mono _ _ _ _
   | exact LeO.none _
   | refine LeO.ite ?_ ?_
   | refine LeO.bind ?_ (fun _ => ?_)
theorem spec_DrawRecoverLog.mono : ∀ a0 k, LeO (spec_DrawRecoverLog.f k a0) (spec_DrawRecoverLog.f (k + 1) a0) := by
 intro a0 k
 have ih0 := spec_DrawRecoverLog.mono_l k
 unfold spec_DrawRecoverLog.f
 repeat' first
   | (with_reducible exact ih0 _ _ _ _)
   | (with_reducible exact spec_l12Line.mono _ _ _ _)
   | (with_reducible exact spec_l1Cur_log12.mono _ _ _ _)
   | (with_reducible exact LeO.refl _)
   | (with_reducible exact LeO.none _)
   | (with_reducible refine LeO.ite ?_ ?_)
   | (with_reducible refine LeO.bind ?_ (fun _ => ?_))
   | exact ih0 _ _ _ _
   | exact spec_l12Line.mono _ _ _ _
   | exact spec_l1Cur_log12.mono _ _ _ _
   | exact LeO.none _
   | refine LeO.ite ?_ ?_
   | refine LeO.bind ?_ (fun _ => ?_)
set_option maxHeartbeats 8000000 in
set_option maxRecDepth 100000 in
theorem spec_DrawRecoverLog.calls (k : Nat) (A0 : Option Addr) (c0 : Nat) (l0 : List Int) (r : ByteArray) (w : World) (hr0 : Kd.C (Kd.int .u8) w A0 l0.length l0) (hc0 : l0.length ≤ c0) (h : spec_DrawRecoverLog.f k l0 = some r) :
  Calls Try.prog 27 #[.slice A0 l0.length c0] w fun e w' => e = .returned (.string r) ∧ Below w.heap.size w w' := by
 have hu55 := Try.underlying55
 have hu33 := Try.underlying33
 have HR0 := Aside0.mk hr0
 have HC0 := Aside0.mk hc0
 clear hr0 hc0
 have HB := Aside0.mk (Below.refl w.heap.size w)
 have H : ((spec_l1Cur_log12.f k l0 0 0).bind fun bt521 => (if bt521.1.size + bt521.2.1.size ≤ 9223372036854775807 then ((spec_l1Cur_pick.f l0 bt521.2.2.2.1 bt521.2.2.2.2 4).bind fun bt527 => (if bt527.1 = 0 then ((spec_l1Cur_spoilt.f l0 bt527.2.1 bt527.2.2 (bt521.1 ++ bt521.2.1) (⟨#[35, 64, 10, 48, 49]⟩ : ByteArray)).bind fun bt530 => (spec_DrawRecoverLog.j0 k bt530.1 l0 bt530.2.1 bt530.2.2)) else (if bt527.1 = 1 then ((spec_l1Cur_pick.f l0 bt527.2.1 bt527.2.2 (wrap64 (((bt521.1.size : Int) + (bt521.2.1.size : Int)) + 1))).bind fun bt533 => (if 0 ≤ bt533.1 then (if bt533.1 ≤ ((bt521.1.size : Int) + (bt521.2.1.size : Int)) then (spec_DrawRecoverLog.j0 k ((bt521.1 ++ bt521.2.1).extract 0 (bt533.1 : Int).toNat) l0 bt533.2.1 bt533.2.2) else (none)) else (none))) else (if bt527.1 = 2 then ((spec_l1Cur_pick.f l0 bt527.2.1 bt527.2.2 4).bind fun bt536 => ((spec_l1Cur_logRecord.f l0 bt536.2.1 bt536.2.2).bind fun bt539 => ((spec_l12Line.f k bt536.1 bt539.1 bt539.2.1).bind fun t543 => (if bt521.1.size + bt521.2.1.size + t543.size ≤ 9223372036854775807 then (spec_DrawRecoverLog.j0 k ((bt521.1 ++ bt521.2.1) ++ t543) l0 bt539.2.2.1 bt539.2.2.2) else (none))))) else (spec_DrawRecoverLog.j0 k (bt521.1 ++ bt521.2.1) l0 bt527.2.1 bt527.2.2))))) else (none))) = some r := h
 clear h
 replace H := Option.bind_eq_some_iff.mp H
 obtain ⟨⟨t521, t522, t523, t524, t525⟩, A20, H⟩ := H
 replace H : (if t521.size + t522.size ≤ 9223372036854775807 then ((spec_l1Cur_pick.f l0 t524 t525 4).bind fun bt527 => (if bt527.1 = 0 then ((spec_l1Cur_spoilt.f l0 bt527.2.1 bt527.2.2 (t521 ++ t522) (⟨#[35, 64, 10, 48, 49]⟩ : ByteArray)).bind fun bt530 => (spec_DrawRecoverLog.j0 k bt530.1 l0 bt530.2.1 bt530.2.2)) else (if bt527.1 = 1 then ((spec_l1Cur_pick.f l0 bt527.2.1 bt527.2.2 (wrap64 (((t521.size : Int) + (t522.size : Int)) + 1))).bind fun bt533 => (if 0 ≤ bt533.1 then (if bt533.1 ≤ ((t521.size : Int) + (t522.size : Int)) then (spec_DrawRecoverLog.j0 k ((t521 ++ t522).extract 0 (bt533.1 : Int).toNat) l0 bt533.2.1 bt533.2.2) else (none)) else (none))) else (if bt527.1 = 2 then ((spec_l1Cur_pick.f l0 bt527.2.1 bt527.2.2 4).bind fun bt536 => ((spec_l1Cur_logRecord.f l0 bt536.2.1 bt536.2.2).bind fun bt539 => ((spec_l12Line.f k bt536.1 bt539.1 bt539.2.1).bind fun t543 => (if t521.size + t522.size + t543.size ≤ 9223372036854775807 then (spec_DrawRecoverLog.j0 k ((t521 ++ t522) ++ t543) l0 bt539.2.2.1 bt539.2.2.2) else (none))))) else (spec_DrawRecoverLog.j0 k (t521 ++ t522) l0 bt527.2.1 bt527.2.2))))) else (none)) = some r := H
 have A2 := Aside0.mk A20
 clear A20
 by_cases c3 : t521.size + t522.size ≤ 9223372036854775807
 rotate_left
 ·rw [if_neg c3] at H
  exact absurd H (by simp)
 rw [if_pos c3] at H
 have c3b0 := eq_true c3
 have c3b1 : decide (t521.size + t522.size ≤ 9223372036854775807) = true := decide_eq_true c3
 try have c3b2 : (9223372036854775807 < t521.size + t522.size) = False := eq_false (Nat.not_lt.2 c3)
 replace H := Option.bind_eq_some_iff.mp H
 obtain ⟨⟨t527, t528, t529⟩, A40, H⟩ := H
 replace H : (if t527 = 0 then ((spec_l1Cur_spoilt.f l0 t528 t529 (t521 ++ t522) (⟨#[35, 64, 10, 48, 49]⟩ : ByteArray)).bind fun bt530 => (spec_DrawRecoverLog.j0 k bt530.1 l0 bt530.2.1 bt530.2.2)) else (if t527 = 1 then ((spec_l1Cur_pick.f l0 t528 t529 (wrap64 (((t521.size : Int) + (t522.size : Int)) + 1))).bind fun bt533 => (if 0 ≤ bt533.1 then (if bt533.1 ≤ ((t521.size : Int) + (t522.size : Int)) then (spec_DrawRecoverLog.j0 k ((t521 ++ t522).extract 0 (bt533.1 : Int).toNat) l0 bt533.2.1 bt533.2.2) else (none)) else (none))) else (if t527 = 2 then ((spec_l1Cur_pick.f l0 t528 t529 4).bind fun bt536 => ((spec_l1Cur_logRecord.f l0 bt536.2.1 bt536.2.2).bind fun bt539 => ((spec_l12Line.f k bt536.1 bt539.1 bt539.2.1).bind fun t543 => (if t521.size + t522.size + t543.size ≤ 9223372036854775807 then (spec_DrawRecoverLog.j0 k ((t521 ++ t522) ++ t543) l0 bt539.2.2.1 bt539.2.2.2) else (none))))) else (spec_DrawRecoverLog.j0 k (t521 ++ t522) l0 t528 t529)))) = some r := H
 have A4 := Aside0.mk A40
 clear A40
 have HC5 := Aside0.mk H
 clear H
 go_enter Try.func27, Try.ntmps27
 go_upto_block 0 with (first | ((with_reducible refine gate_dst (N := 8) rfl ?_); refine box_event ?hg (N := 8) ?hd (cs := #[.slice A0 l0.length c0, .int .i64 0, .int .u64 0]) (t := 55) ?hr ?_; (case hd => rfl); (case hg => rfl); (case hr => first | (go_simp; done) | (go_simp; rfl)); intro gb520 hg w6 hbox hb; have n0_ := Aside0.mk (below_step (bw HB.out) hb); have n1_ := Aside0.mk ((show IsS55 w w6 gb520 l0 0 0 from ⟨A0, c0, hbox, (by rw [hg]; exact (below_size (bw HB.out)) : w.heap.size ≤ gb520), HR0.out⟩)); replace HB := n0_; have HI520 := n1_; clear n0_ n1_; (try clear hbox); (try clear hb); (try clear hg)) | ((with_reducible refine gate_callee (f := 46) rfl ?_); refine goesL_ (some 10) rfl rfl Try.func46 (by kernel_rfl) rfl #[.pointer (some ⟨gb520, 0, none⟩)] rfl (by (try simp only [mA_]); first | done | rfl | (simp only [List.length_drop, List.length_take]; rfl)) ?_; (with_reducible refine (spec_l1Cur_log12.calls k gb520 l0 0 0 t521 t522 t523 t524 t525 w _ ?side1 ?side2 A2.out).mono ?_); (case side1 => repeat (first | (with_reducible first | exact HI520.out | apply IsS55.alloc | apply IsS55.drewN | apply IsS55.drew | apply IsS55.set_1 | apply IsS55.set_2) | exact HI520.out)); (case side2 => repeat (first | (with_reducible first | exact HB.out | apply below_alloc | apply pw_below_drewN | apply below_drew1 | refine below_set ?_ (IsS55.ge HI520.out)) | exact HB.out)); rintro e w7 ⟨rfl, hi, hb, hk⟩; refine ⟨_, rfl, ?_⟩; have n0_ := Aside0.mk (hb); have n1_ := Aside0.mk (hi); replace HB := n0_; replace HI520 := n1_; clear n0_ n1_; (try clear hb); (try clear hb2); (try clear hk); (try clear hi)) | ((with_reducible refine gate_dst (N := 4) rfl ?_); refine box_event ?hg (N := 4) ?hd (cs := #[.string (⟨#[]⟩ : ByteArray), .string (⟨#[]⟩ : ByteArray), .int .i64 0]) (t := 33) ?hr ?_; (case hd => rfl); (case hg => rfl); (case hr => first | (go_simp; done) | (go_simp; rfl)); intro gb526 hg w8 hbox hb; have n0_ := Aside0.mk (IsS55.below (by repeat (first | (with_reducible first | exact HI520.out | apply IsS55.alloc | apply IsS55.drewN | apply IsS55.drew | apply IsS55.set_1 | apply IsS55.set_2) | exact HI520.out)) hb); have n1_ := Aside0.mk (below_step (by repeat (first | (with_reducible first | exact HB.out | apply below_alloc | apply pw_below_drewN | apply below_drew1 | refine below_set ?_ (IsS55.ge HI520.out)) | exact HB.out)) hb); have n2_ := Aside0.mk (hbox); have n3_ := Aside0.mk ((by rw [hg]; exact (below_size (by repeat (first | (with_reducible first | exact HB.out | apply below_alloc | apply pw_below_drewN | apply below_drew1 | refine below_set ?_ (IsS55.ge HI520.out)) | exact HB.out))) : w.heap.size ≤ gb526)); have n4_ := Aside0.mk ((by rw [hg]; exact (below_size (by repeat (first | (with_reducible first | exact HB.out | apply below_alloc | apply pw_below_drewN | apply below_drew1 | refine below_set ?_ (IsS55.ge HI520.out)) | exact HB.out))) : w.heap.size ≤ gb526)); have n5_ := Aside0.mk ((by rw [hg]; exact Nat.ne_of_lt (IsS55.lt (show IsS55 w _ gb520 l0 t524 t525 from by repeat (first | (with_reducible first | exact HI520.out | apply IsS55.alloc | apply IsS55.drewN | apply IsS55.drew | apply IsS55.set_1 | apply IsS55.set_2) | exact HI520.out))) : gb520 ≠ gb526)); have n6_ := Aside0.mk ((by rw [hg]; exact Nat.ne_of_gt (IsS55.lt (show IsS55 w _ gb520 l0 t524 t525 from by repeat (first | (with_reducible first | exact HI520.out | apply IsS55.alloc | apply IsS55.drewN | apply IsS55.drew | apply IsS55.set_1 | apply IsS55.set_2) | exact HI520.out))) : gb526 ≠ gb520)); replace HI520 := n0_; replace HB := n1_; have BK526 := n2_; have GW526 := n3_; have GE526 := n4_; have NB520_526 := n5_; have NB526_520 := n6_; clear n0_ n1_ n2_ n3_ n4_ n5_ n6_; clear hb hbox hg; have hnb9 := NB526_520.out; have hnc9 := NB520_526.out; obtain ⟨hcz10_0, hcz10_1, hcz10_2, hfz10_0, hfz10_1, hfz10_2⟩ := bz3 BK526.out) | ((with_reducible refine gate_callee (f := 40) rfl ?_); refine goesL_ (some 17) rfl rfl Try.func40 (by kernel_rfl) rfl #[.pointer (some ⟨gb520, 0, none⟩), .int .i64 4] rfl (by (try simp only [mA_]); first | done | rfl | (simp only [List.length_drop, List.length_take]; rfl)) ?_; (with_reducible refine (spec_l1Cur_pick.calls gb520 l0 t524 t525 4 t527 t528 t529 w _ ?side1 ?side2 A4.out).mono ?_); (case side1 => repeat (first | (with_reducible first | exact HI520.out | apply IsS55.alloc | apply IsS55.drewN | apply IsS55.drew | apply IsS55.set_1 | apply IsS55.set_2 | refine IsS55.far ?_ NB520_526.out _) | exact HI520.out)); (case side2 => repeat (first | (with_reducible first | exact HB.out | apply below_alloc | apply pw_below_drewN | apply below_drew1 | refine below_set ?_ (IsS55.ge HI520.out) | refine below_set ?_ GE526.out) | exact HB.out)); rintro e w11 ⟨rfl, hi, hb, hk⟩; refine ⟨_, rfl, ?_⟩; have n0_ := Aside0.mk (KeepBut.blk hk (g' := gb526) (o := .cells #[.string t521, .string t522, .int .i64 t523] 33 (0, 0)) (by (with_reducible repeat (first | refine blk_drewN ?_ _ | refine blk_drew ?_ | refine blk_alloc ?_ _)); refine blk_put (cs := #[.string t521, .string t522, .int .i64 0]) ?_ 2 _ rfl; (with_reducible repeat (first | refine blk_drewN ?_ _ | refine blk_drew ?_ | refine blk_alloc ?_ _)); refine blk_put (cs := #[.string t521, .string (⟨#[]⟩ : ByteArray), .int .i64 0]) ?_ 1 _ rfl; (with_reducible repeat (first | refine blk_drewN ?_ _ | refine blk_drew ?_ | refine blk_alloc ?_ _)); refine blk_put (cs := #[.string (⟨#[]⟩ : ByteArray), .string (⟨#[]⟩ : ByteArray), .int .i64 0]) ?_ 0 _ rfl; exact bs BK526.out) NB526_520.out (by simp)); have n1_ := Aside0.mk (hb); have n2_ := Aside0.mk (hi); replace BK526 := n0_; replace HB := n1_; replace HI520 := n2_; clear n0_ n1_ n2_; (try clear hb); (try clear hb2); (try clear hk); (try clear hi)))
 (try simp only [Act.put, List.setIfInBounds_toArray, List.set_cons_zero, List.set_cons_succ])
 go_cut [5] (fun v5 wc => ∃ (kq : Nat) (x5_4 : ByteArray) (x521001_4 : Int) (x521002_4 : Int), v5 = .string x5_4 ∧ Aside0 (spec_DrawRecoverLog.j0 kq x5_4 l0 x521001_4 x521002_4 = some r) ∧ Aside0 (kq ≤ k) ∧ Aside0 (wc.heap[gb526]? = some (.cells #[.string t521, .string t522, .int .i64 t523] 33 (0, 0))) ∧ Aside0 (IsS55 w wc gb520 l0 x521001_4 x521002_4) ∧ Aside0 (Below w.heap.size w wc))
 case first =>
  have H := HC5.out
  clear HC5
  by_cases c12 : t527 = 0
  ·rw [if_pos c12] at H
   have c12b0 : (t527 == 0) = true := beq_iff_eq.mpr c12
   have c12b1 : (t527 != 0) = false := bne_eq_false_iff_eq.mpr c12
   clear c12
   (first | rw [c12b0] | (simp only [i64_w, i32_w]; rw [c12b0]) | skip)
   replace H := Option.bind_eq_some_iff.mp H
   obtain ⟨⟨t530, t531, t532⟩, A130, H⟩ := H
   replace H : (spec_DrawRecoverLog.j0 k t530 l0 t531 t532) = some r := H
   have A13 := Aside0.mk A130
   clear A130
   have H' := Aside0.mk H
   clear H
   go_wp2_with (first | ((with_reducible refine gate_callee (f := 47) rfl ?_); refine goesL_ (some 22) rfl rfl Try.func47 (by kernel_rfl) rfl #[.pointer (some ⟨gb520, 0, none⟩), .string (t521 ++ t522), .string (⟨#[35, 64, 10, 48, 49]⟩ : ByteArray)] rfl (by (try simp only [mA_]); first | done | rfl | (simp only [List.length_drop, List.length_take]; rfl)) ?_; (with_reducible refine (spec_l1Cur_spoilt.calls gb520 l0 t528 t529 (t521 ++ t522) (⟨#[35, 64, 10, 48, 49]⟩ : ByteArray) t530 t531 t532 w _ ?side1 ?side2 A13.out).mono ?_); (case side1 => repeat (first | (with_reducible first | exact HI520.out | apply IsS55.alloc | apply IsS55.drewN | apply IsS55.drew | apply IsS55.set_1 | apply IsS55.set_2 | refine IsS55.far ?_ NB520_526.out _) | exact HI520.out)); (case side2 => repeat (first | (with_reducible first | exact HB.out | apply below_alloc | apply pw_below_drewN | apply below_drew1 | refine below_set ?_ (IsS55.ge HI520.out) | refine below_set ?_ GE526.out) | exact HB.out)); rintro e w14 ⟨rfl, hi, hb, hk⟩; refine ⟨_, rfl, ?_⟩; have n0_ := Aside0.mk (KeepBut.blk hk (g' := gb526) (o := .cells #[.string t521, .string t522, .int .i64 t523] 33 (0, 0)) (bs BK526.out) NB526_520.out (by simp)); have n1_ := Aside0.mk (hb); have n2_ := Aside0.mk (hi); replace BK526 := n0_; replace HB := n1_; replace HI520 := n2_; clear n0_ n1_ n2_; (try clear hb); (try clear hb2); (try clear hk); (try clear hi)))
   go_meet
   case rel => exact ⟨_, (t530), (t531), (t532), (by first | rfl | (simp; done) | (simp [*]; done)), H', ⟨by first | omega | exact Nat.le_refl _⟩, ⟨bs BK526.out⟩, ⟨by repeat (first | (with_reducible first | exact HI520.out | apply IsS55.alloc | apply IsS55.drewN | apply IsS55.drew | apply IsS55.set_1 | apply IsS55.set_2 | refine IsS55.far ?_ NB520_526.out _) | exact HI520.out)⟩, ⟨by repeat (first | (with_reducible first | exact HB.out | apply below_alloc | apply pw_below_drewN | apply below_drew1 | refine below_set ?_ (IsS55.ge HI520.out) | refine below_set ?_ GE526.out) | exact HB.out)⟩⟩
  rw [if_neg c12] at H
  have c12b0 : (t527 == 0) = false := beq_eq_false_iff_ne.mpr c12
  have c12b1 : (t527 != 0) = true := bne_iff_ne.mpr c12
  (first | rw [c12b0] | (simp only [i64_w, i32_w]; rw [c12b0]) | skip)
  by_cases c15 : t527 = 1
  ·rw [if_pos c15] at H
   have c15b0 : (t527 == 1) = true := beq_iff_eq.mpr c15
   have c15b1 : (t527 != 1) = false := bne_eq_false_iff_eq.mpr c15
   clear c15
   replace H := Option.bind_eq_some_iff.mp H
   obtain ⟨⟨t533, t534, t535⟩, A160, H⟩ := H
   replace H : (if 0 ≤ t533 then (if t533 ≤ ((t521.size : Int) + (t522.size : Int)) then (spec_DrawRecoverLog.j0 k ((t521 ++ t522).extract 0 (t533 : Int).toNat) l0 t534 t535) else (none)) else (none)) = some r := H
   have A16 := Aside0.mk A160
   clear A160
   by_cases c17 : 0 ≤ t533
   rotate_left
   ·rw [if_neg c17] at H
    exact absurd H (by simp)
   rw [if_pos c17] at H
   have c17b0 := eq_true c17
   have c17b1 : decide (0 ≤ t533) = true := decide_eq_true c17
   clear c17
   by_cases c18 : t533 ≤ ((t521.size : Int) + (t522.size : Int))
   rotate_left
   ·rw [if_neg c18] at H
    exact absurd H (by simp)
   rw [if_pos c18] at H
   have c18b0 := eq_true c18
   have c18b1 : decide (t533 ≤ ((t521.size : Int) + (t522.size : Int))) = true := decide_eq_true c18
   have H' := Aside0.mk H
   clear H
   go_wp2_with (first | ((with_reducible refine gate_callee (f := 40) rfl ?_); refine goesL_ (some 30) rfl rfl Try.func40 (by kernel_rfl) rfl #[.pointer (some ⟨gb520, 0, none⟩), .int .i64 (wrap64 (((t521.size : Int) + (t522.size : Int)) + 1))] rfl (by (try simp only [mA_]); first | done | rfl | (simp only [List.length_drop, List.length_take]; rfl)) ?_; (with_reducible refine (spec_l1Cur_pick.calls gb520 l0 t528 t529 (wrap64 (((t521.size : Int) + (t522.size : Int)) + 1)) t533 t534 t535 w _ ?side1 ?side2 A16.out).mono ?_); (case side1 => repeat (first | (with_reducible first | exact HI520.out | apply IsS55.alloc | apply IsS55.drewN | apply IsS55.drew | apply IsS55.set_1 | apply IsS55.set_2 | refine IsS55.far ?_ NB520_526.out _) | exact HI520.out)); (case side2 => repeat (first | (with_reducible first | exact HB.out | apply below_alloc | apply pw_below_drewN | apply below_drew1 | refine below_set ?_ (IsS55.ge HI520.out) | refine below_set ?_ GE526.out) | exact HB.out)); rintro e w19 ⟨rfl, hi, hb, hk⟩; refine ⟨_, rfl, ?_⟩; have n0_ := Aside0.mk (KeepBut.blk hk (g' := gb526) (o := .cells #[.string t521, .string t522, .int .i64 t523] 33 (0, 0)) (bs BK526.out) NB526_520.out (by simp)); have n1_ := Aside0.mk (hb); have n2_ := Aside0.mk (hi); replace BK526 := n0_; replace HB := n1_; replace HI520 := n2_; clear n0_ n1_ n2_; (try clear hb); (try clear hb2); (try clear hk); (try clear hi)))
   go_meet
   case rel => exact ⟨_, ((t521 ++ t522).extract 0 (t533 : Int).toNat), (t534), (t535), (by first | rfl | (simp; done) | (simp [*]; done)), H', ⟨by first | omega | exact Nat.le_refl _⟩, ⟨bs BK526.out⟩, ⟨by repeat (first | (with_reducible first | exact HI520.out | apply IsS55.alloc | apply IsS55.drewN | apply IsS55.drew | apply IsS55.set_1 | apply IsS55.set_2 | refine IsS55.far ?_ NB520_526.out _) | exact HI520.out)⟩, ⟨by repeat (first | (with_reducible first | exact HB.out | apply below_alloc | apply pw_below_drewN | apply below_drew1 | refine below_set ?_ (IsS55.ge HI520.out) | refine below_set ?_ GE526.out) | exact HB.out)⟩⟩
  rw [if_neg c15] at H
  have c15b0 : (t527 == 1) = false := beq_eq_false_iff_ne.mpr c15
  have c15b1 : (t527 != 1) = true := bne_iff_ne.mpr c15
  by_cases c20 : t527 = 2
  rotate_left
  ·rw [if_neg c20] at H
   have c20b0 : (t527 == 2) = false := beq_eq_false_iff_ne.mpr c20
   have c20b1 : (t527 != 2) = true := bne_iff_ne.mpr c20
   have H' := Aside0.mk H
   clear H
   go_wp2
   go_meet
   case rel => exact ⟨_, (t521 ++ t522), (t528), (t529), (by first | rfl | (simp; done) | (simp [*]; done)), H', ⟨by first | omega | exact Nat.le_refl _⟩, ⟨bs BK526.out⟩, ⟨by repeat (first | (with_reducible first | exact HI520.out | apply IsS55.alloc | apply IsS55.drewN | apply IsS55.drew | apply IsS55.set_1 | apply IsS55.set_2 | refine IsS55.far ?_ NB520_526.out _) | exact HI520.out)⟩, ⟨by repeat (first | (with_reducible first | exact HB.out | apply below_alloc | apply pw_below_drewN | apply below_drew1 | refine below_set ?_ (IsS55.ge HI520.out) | refine below_set ?_ GE526.out) | exact HB.out)⟩⟩
  rw [if_pos c20] at H
  have c20b0 : (t527 == 2) = true := beq_iff_eq.mpr c20
  have c20b1 : (t527 != 2) = false := bne_eq_false_iff_eq.mpr c20
  clear c20
  replace H := Option.bind_eq_some_iff.mp H
  obtain ⟨⟨t536, t537, t538⟩, A210, H⟩ := H
  replace H : ((spec_l1Cur_logRecord.f l0 t537 t538).bind fun bt539 => ((spec_l12Line.f k t536 bt539.1 bt539.2.1).bind fun t543 => (if t521.size + t522.size + t543.size ≤ 9223372036854775807 then (spec_DrawRecoverLog.j0 k ((t521 ++ t522) ++ t543) l0 bt539.2.2.1 bt539.2.2.2) else (none)))) = some r := H
  have A21 := Aside0.mk A210
  clear A210
  replace H := Option.bind_eq_some_iff.mp H
  obtain ⟨⟨t539, t540, t541, t542⟩, A220, H⟩ := H
  replace H : ((spec_l12Line.f k t536 t539 t540).bind fun t543 => (if t521.size + t522.size + t543.size ≤ 9223372036854775807 then (spec_DrawRecoverLog.j0 k ((t521 ++ t522) ++ t543) l0 t541 t542) else (none))) = some r := H
  have A22 := Aside0.mk A220
  clear A220
  replace H := Option.bind_eq_some_iff.mp H
  obtain ⟨t543, A230, H⟩ := H
  replace H : (if t521.size + t522.size + t543.size ≤ 9223372036854775807 then (spec_DrawRecoverLog.j0 k ((t521 ++ t522) ++ t543) l0 t541 t542) else (none)) = some r := H
  have A23 := Aside0.mk A230
  clear A230
  by_cases c24 : t521.size + t522.size + t543.size ≤ 9223372036854775807
  rotate_left
  ·rw [if_neg c24] at H
   exact absurd H (by simp)
  rw [if_pos c24] at H
  have c24b0 := eq_true c24
  have c24b1 : decide (t521.size + t522.size + t543.size ≤ 9223372036854775807) = true := decide_eq_true c24
  try have c24b2 : (9223372036854775807 < t521.size + t522.size + t543.size) = False := eq_false (Nat.not_lt.2 c24)
  have H' := Aside0.mk H
  clear H
  go_wp2_with (first | ((with_reducible refine gate_callee (f := 40) rfl ?_); refine goesL_ (some 36) rfl rfl Try.func40 (by kernel_rfl) rfl #[.pointer (some ⟨gb520, 0, none⟩), .int .i64 4] rfl (by (try simp only [mA_]); first | done | rfl | (simp only [List.length_drop, List.length_take]; rfl)) ?_; (with_reducible refine (spec_l1Cur_pick.calls gb520 l0 t528 t529 4 t536 t537 t538 w _ ?side1 ?side2 A21.out).mono ?_); (case side1 => repeat (first | (with_reducible first | exact HI520.out | apply IsS55.alloc | apply IsS55.drewN | apply IsS55.drew | apply IsS55.set_1 | apply IsS55.set_2 | refine IsS55.far ?_ NB520_526.out _) | exact HI520.out)); (case side2 => repeat (first | (with_reducible first | exact HB.out | apply below_alloc | apply pw_below_drewN | apply below_drew1 | refine below_set ?_ (IsS55.ge HI520.out) | refine below_set ?_ GE526.out) | exact HB.out)); rintro e w25 ⟨rfl, hi, hb, hk⟩; refine ⟨_, rfl, ?_⟩; have n0_ := Aside0.mk (KeepBut.blk hk (g' := gb526) (o := .cells #[.string t521, .string t522, .int .i64 t523] 33 (0, 0)) (bs BK526.out) NB526_520.out (by simp)); have n1_ := Aside0.mk (hb); have n2_ := Aside0.mk (hi); replace BK526 := n0_; replace HB := n1_; replace HI520 := n2_; clear n0_ n1_ n2_; (try clear hb); (try clear hb2); (try clear hk); (try clear hi)) | ((with_reducible refine gate_callee (f := 30) rfl ?_); refine goesL_ (some 38) rfl rfl Try.func30 (by kernel_rfl) rfl #[.pointer (some ⟨gb520, 0, none⟩)] rfl (by (try simp only [mA_]); first | done | rfl | (simp only [List.length_drop, List.length_take]; rfl)) ?_; (with_reducible refine (spec_l1Cur_logRecord.calls gb520 l0 t537 t538 t539 t540 t541 t542 w _ ?side1 ?side2 A22.out).mono ?_); (case side1 => repeat (first | (with_reducible first | exact HI520.out | apply IsS55.alloc | apply IsS55.drewN | apply IsS55.drew | apply IsS55.set_1 | apply IsS55.set_2 | refine IsS55.far ?_ NB520_526.out _) | exact HI520.out)); (case side2 => repeat (first | (with_reducible first | exact HB.out | apply below_alloc | apply pw_below_drewN | apply below_drew1 | refine below_set ?_ (IsS55.ge HI520.out) | refine below_set ?_ GE526.out) | exact HB.out)); rintro e w26 ⟨rfl, hi, hb, hk⟩; refine ⟨_, rfl, ?_⟩; have n0_ := Aside0.mk (KeepBut.blk hk (g' := gb526) (o := .cells #[.string t521, .string t522, .int .i64 t523] 33 (0, 0)) (bs BK526.out) NB526_520.out (by simp)); have n1_ := Aside0.mk (hb); have n2_ := Aside0.mk (hi); replace BK526 := n0_; replace HB := n1_; replace HI520 := n2_; clear n0_ n1_ n2_; (try clear hb); (try clear hb2); (try clear hk); (try clear hi)) | ((with_reducible refine gate_callee (f := 37) rfl ?_); refine goesL_ (some 39) rfl rfl Try.func37 (by kernel_rfl) rfl #[.int .i64 t536, .agg #[.string t539, .string t540]] rfl (by (try simp only [mA_]); first | done | rfl | (simp only [List.length_drop, List.length_take]; rfl)) ?_; (with_reducible refine (spec_l12Line.calls k t536 t539 t540 t543 _ A23.out).mono ?_); rintro e w27 ⟨rfl, hb⟩; refine ⟨_, rfl, ?_⟩; have n0_ := Aside0.mk (IsS55.below (by repeat (first | (with_reducible first | exact HI520.out | apply IsS55.alloc | apply IsS55.drewN | apply IsS55.drew | apply IsS55.set_1 | apply IsS55.set_2 | refine IsS55.far ?_ NB520_526.out _) | exact HI520.out)) hb); have n1_ := Aside0.mk (blk_below (bs BK526.out) hb); have n2_ := Aside0.mk (below_step (by repeat (first | (with_reducible first | exact HB.out | apply below_alloc | apply pw_below_drewN | apply below_drew1 | refine below_set ?_ (IsS55.ge HI520.out) | refine below_set ?_ GE526.out) | exact HB.out)) hb); replace HI520 := n0_; replace BK526 := n1_; replace HB := n2_; clear n0_ n1_ n2_; (try clear hb); (try clear hb2); (try clear hk); (try clear hi)))
  go_meet
  case rel => exact ⟨_, ((t521 ++ t522) ++ t543), (t541), (t542), (by first | rfl | (simp; done) | (simp [*]; done)), H', ⟨by first | omega | exact Nat.le_refl _⟩, ⟨bs BK526.out⟩, ⟨by repeat (first | (with_reducible first | exact HI520.out | apply IsS55.alloc | apply IsS55.drewN | apply IsS55.drew | apply IsS55.set_1 | apply IsS55.set_2 | refine IsS55.far ?_ NB520_526.out _) | exact HI520.out)⟩, ⟨by repeat (first | (with_reducible first | exact HB.out | apply below_alloc | apply pw_below_drewN | apply below_drew1 | refine below_set ?_ (IsS55.ge HI520.out) | refine below_set ?_ GE526.out) | exact HB.out)⟩⟩
 case rest =>
  clear HC5
  try clear c1
  try clear c2
  try clear p2
  try clear c3
  try clear c3b0
  try clear c3b1
  try clear c3b2
  try clear c4
  try clear p6
  try clear c9
  try clear c12
  try clear c12b0
  try clear c12b1
  try clear c15
  try clear c15b0
  try clear c15b1
  try clear c17
  try clear c17b0
  try clear c17b1
  try clear c18
  try clear c18b0
  try clear c18b1
  try clear c20
  try clear c20b0
  try clear c20b1
  try clear c24
  try clear c24b0
  try clear c24b1
  try clear c24b2
  try clear c27
  try clear hcz10_0
  try clear hcz10_1
  try clear hcz10_2
  try clear hfz10_0
  try clear hfz10_1
  try clear hfz10_2
  obtain ⟨kq, x5_4, x521001_4, x521002_4, rfl, HA, HJ4, BK526, HI520, HB⟩ := hcut
  cases kq with
  | zero => exact absurd HA.out (by simp [spec_DrawRecoverLog.j0])
  | succ kj4 =>
   have H := HA.out
   clear HA
   simp only [spec_DrawRecoverLog.j0] at H
   replace H := Option.bind_eq_some_iff.mp H
   obtain ⟨⟨t544, t545, t546⟩, A280, H⟩ := H
   replace H : (if t544 = true then ((spec_l1Cur_pick.f l0 t545 t546 2).bind fun bt547 => (if 0 ≤ (wrap64 (30000 + bt547.1)) then (if (wrap64 (30000 + bt547.1) : Int).toNat ≤ 281474976710656 then (some (strOfNums (List.replicate (wrap64 (30000 + bt547.1) : Int).toNat 0))) else (none)) else (none))) else (some x5_4)) = some r := H
   have A28 := Aside0.mk A280
   clear A280
   by_cases c29 : t544 = true
   rotate_left
   ·replace c29 := Bool.eq_false_iff.mpr c29
    subst c29
    have H1 : (some x5_4) = some r := by rw [if_neg (show ¬ (false = true) by decide)] at H; exact H
    clear H
    have H := H1
    clear H1
    obtain rfl := Option.some.inj H
    go_wp2_with (first | ((with_reducible refine gate_callee (f := 39) rfl ?_); refine goesL_ (some 42) rfl rfl Try.func39 (by kernel_rfl) rfl #[.pointer (some ⟨gb520, 0, none⟩), .int .i64 40] rfl (by (try simp only [mA_]); first | done | rfl | (simp only [List.length_drop, List.length_take]; rfl)) ?_; (with_reducible refine (spec_l1Cur_one.calls gb520 l0 x521001_4 x521002_4 40 false t545 t546 w _ ?side1 ?side2 A28.out).mono ?_); (case side1 => repeat (first | (with_reducible first | exact HI520.out | apply IsS55.alloc | apply IsS55.drewN | apply IsS55.drew | apply IsS55.set_1 | apply IsS55.set_2 | refine IsS55.far ?_ NB520_526.out _) | exact HI520.out)); (case side2 => repeat (first | (with_reducible first | exact HB.out | apply below_alloc | apply pw_below_drewN | apply below_drew1 | refine below_set ?_ (IsS55.ge HI520.out) | refine below_set ?_ GE526.out) | exact HB.out)); rintro e w39 ⟨rfl, hi, hb, hk⟩; refine ⟨_, rfl, ?_⟩; have n0_ := Aside0.mk (KeepBut.blk hk (g' := gb526) (o := .cells #[.string t521, .string t522, .int .i64 t523] 33 (0, 0)) (bs BK526.out) NB526_520.out (by simp)); have n1_ := Aside0.mk (hb); have n2_ := Aside0.mk (hi); replace BK526 := n0_; replace HB := n1_; replace HI520 := n2_; clear n0_ n1_ n2_; (try clear hb); (try clear hb2); (try clear hk); (try clear hi)))
    go_ret
    exact ⟨by first | rfl | (simp [errW_none, errW_some] <;> rfl) | (simp [*, errW_none, errW_some] <;> rfl), by repeat (first | (with_reducible first | exact HB.out | apply below_alloc | apply pw_below_drewN | apply below_drew1 | refine below_set ?_ (IsS55.ge HI520.out) | refine below_set ?_ GE526.out) | exact HB.out)⟩
   subst c29
   have H1 : ((spec_l1Cur_pick.f l0 t545 t546 2).bind fun bt547 => (if 0 ≤ (wrap64 (30000 + bt547.1)) then (if (wrap64 (30000 + bt547.1) : Int).toNat ≤ 281474976710656 then (some (strOfNums (List.replicate (wrap64 (30000 + bt547.1) : Int).toNat 0))) else (none)) else (none))) = some r := by rw [if_pos rfl] at H; exact H
   clear H
   have H := H1
   clear H1
   replace H := Option.bind_eq_some_iff.mp H
   obtain ⟨⟨t547, t548, t549⟩, A300, H⟩ := H
   replace H : (if 0 ≤ (wrap64 (30000 + t547)) then (if (wrap64 (30000 + t547) : Int).toNat ≤ 281474976710656 then (some (strOfNums (List.replicate (wrap64 (30000 + t547) : Int).toNat 0))) else (none)) else (none)) = some r := H
   have A30 := Aside0.mk A300
   clear A300
   obtain ⟨ji31, hji31⟩ : ∃ j_ : Int, (wrap64 (30000 + t547)) = j_ := ⟨_, rfl⟩
   replace H : (if 0 ≤ (ji31) then (if (ji31 : Int).toNat ≤ 281474976710656 then (some (strOfNums (List.replicate (ji31 : Int).toNat 0))) else (none)) else (none)) = some r := by first | (rw [hji31] at H; exact H) | (simp only [hji31] at H ⊢; exact H)
   (try rw [hji31] at A28)
   (try rw [hji31] at A30)
   have hji31w : (IntKind.i64.wrap (30000 + t547)) = ji31 := (i64_w _).trans hji31
   by_cases c32 : 0 ≤ (ji31)
   rotate_left
   ·rw [if_neg c32] at H
    exact absurd H (by simp)
   rw [if_pos c32] at H
   have c32b0 := eq_true c32
   have c32b1 : decide (0 ≤ (ji31)) = true := decide_eq_true c32
   clear c32
   by_cases c33 : (ji31 : Int).toNat ≤ 281474976710656
   rotate_left
   ·rw [if_neg c33] at H
    exact absurd H (by simp)
   rw [if_pos c33] at H
   have c33b0 := eq_true c33
   have c33b1 : decide ((ji31 : Int).toNat ≤ 281474976710656) = true := decide_eq_true c33
   clear c33
   obtain ⟨y550, hy550⟩ : ∃ y_ : List Int, y_ = (List.replicate (ji31 : Int).toNat 0) := ⟨_, rfl⟩
   replace H : (some (strOfNums y550)) = some r := by first | (rw [hy550]; with_reducible exact H) | (have H2_ := (Option.bind_some _ _).symm.trans H; rw [hy550]; with_reducible exact H2_) | (have H2_ := (Option.bind_some _ _).symm.trans H; with_reducible exact H2_) | with_reducible exact H | (rw [hy550]; exact H) | exact H
   have Ny550 := Aside0.mk hy550
   clear hy550
   obtain rfl := Option.some.inj H
   go_wp2_with (first | ((with_reducible refine gate_callee (f := 39) rfl ?_); refine goesL_ (some 42) rfl rfl Try.func39 (by kernel_rfl) rfl #[.pointer (some ⟨gb520, 0, none⟩), .int .i64 40] rfl (by (try simp only [mA_]); first | done | rfl | (simp only [List.length_drop, List.length_take]; rfl)) ?_; (with_reducible refine (spec_l1Cur_one.calls gb520 l0 x521001_4 x521002_4 40 true t545 t546 w _ ?side1 ?side2 A28.out).mono ?_); (case side1 => repeat (first | (with_reducible first | exact HI520.out | apply IsS55.alloc | apply IsS55.drewN | apply IsS55.drew | apply IsS55.set_1 | apply IsS55.set_2 | refine IsS55.far ?_ NB520_526.out _) | exact HI520.out)); (case side2 => repeat (first | (with_reducible first | exact HB.out | apply below_alloc | apply pw_below_drewN | apply below_drew1 | refine below_set ?_ (IsS55.ge HI520.out) | refine below_set ?_ GE526.out) | exact HB.out)); rintro e w34 ⟨rfl, hi, hb, hk⟩; refine ⟨_, rfl, ?_⟩; have n0_ := Aside0.mk (KeepBut.blk hk (g' := gb526) (o := .cells #[.string t521, .string t522, .int .i64 t523] 33 (0, 0)) (bs BK526.out) NB526_520.out (by simp)); have n1_ := Aside0.mk (hb); have n2_ := Aside0.mk (hi); replace BK526 := n0_; replace HB := n1_; replace HI520 := n2_; clear n0_ n1_ n2_; (try clear hb); (try clear hb2); (try clear hk); (try clear hi)) | ((with_reducible refine gate_callee (f := 40) rfl ?_); refine goesL_ (some 44) rfl rfl Try.func40 (by kernel_rfl) rfl #[.pointer (some ⟨gb520, 0, none⟩), .int .i64 2] rfl (by (try simp only [mA_]); first | done | rfl | (simp only [List.length_drop, List.length_take]; rfl)) ?_; (with_reducible refine (spec_l1Cur_pick.calls gb520 l0 t545 t546 2 t547 t548 t549 w _ ?side1 ?side2 A30.out).mono ?_); (case side1 => repeat (first | (with_reducible first | exact HI520.out | apply IsS55.alloc | apply IsS55.drewN | apply IsS55.drew | apply IsS55.set_1 | apply IsS55.set_2 | refine IsS55.far ?_ NB520_526.out _) | exact HI520.out)); (case side2 => repeat (first | (with_reducible first | exact HB.out | apply below_alloc | apply pw_below_drewN | apply below_drew1 | refine below_set ?_ (IsS55.ge HI520.out) | refine below_set ?_ GE526.out) | exact HB.out)); rintro e w35 ⟨rfl, hi, hb, hk⟩; refine ⟨_, rfl, ?_⟩; have n0_ := Aside0.mk (KeepBut.blk hk (g' := gb526) (o := .cells #[.string t521, .string t522, .int .i64 t523] 33 (0, 0)) (bs BK526.out) NB526_520.out (by simp)); have n1_ := Aside0.mk (hb); have n2_ := Aside0.mk (hi); replace BK526 := n0_; replace HB := n1_; replace HI520 := n2_; clear n0_ n1_ n2_; (try clear hb); (try clear hb2); (try clear hk); (try clear hi)) | ((with_reducible refine gate_dst (N := 46) rfl ?_); refine Kd.R_make (Kd.int .u8) _ 5 rfl (N := 46) rfl 22 _ _ rfl ji31 rfl rfl Try.underlying22 (.int .u8 0) 1 info5 rfl (by decide) (by omega) 0 (ok := fun _ => True) (okp := fun _ => True) rfl (fun _ hk => hk) trivial (of_decide_eq_true (by first | (with_reducible assumption) | assumption)) (Nat.le_trans (Nat.mul_le_mul_right _ (of_decide_eq_true (by first | (with_reducible assumption) | assumption) : ji31.toNat ≤ 281474976710656)) (by omega)) (Below.refl _ _) (Nat.le_refl _) ?_; intro v551 w36 ho37 hb hg_ hnew_; clear hg_ hnew_; (first | rw [← Ny550.out] at ho37 | (simp only [Int.reduceToNat] at ho37; rw [← Ny550.out] at ho37)); have n0_ := Aside0.mk (Kd.R_lower ho37 (below_size (by repeat (first | (with_reducible first | exact HB.out | apply below_alloc | apply pw_below_drewN | apply below_drew1 | refine below_set ?_ (IsS55.ge HI520.out) | refine below_set ?_ GE526.out) | exact HB.out)))); have n1_ := Aside0.mk (blk_below (bs BK526.out) hb); have n2_ := Aside0.mk (IsS55.below (by repeat (first | (with_reducible first | exact HI520.out | apply IsS55.alloc | apply IsS55.drewN | apply IsS55.drew | apply IsS55.set_1 | apply IsS55.set_2 | refine IsS55.far ?_ NB520_526.out _) | exact HI520.out)) hb); have n3_ := Aside0.mk (below_step (by repeat (first | (with_reducible first | exact HB.out | apply below_alloc | apply pw_below_drewN | apply below_drew1 | refine below_set ?_ (IsS55.ge HI520.out) | refine below_set ?_ GE526.out) | exact HB.out)) hb); have HO552 := n0_; replace BK526 := n1_; replace HI520 := n2_; replace HB := n3_; clear n0_ n1_ n2_ n3_; clear hb ho37; have hcv38 := own_string (P := Try.prog) Try.underlying22 Try.underlying5 Try.underlying9 (Kd.own_of_R HO552.out)))
   go_ret
   exact ⟨by first | rfl | (simp [errW_none, errW_some] <;> rfl) | (simp only [← hji31]; first | rfl | (simp [errW_none, errW_some] <;> rfl)) | (simp [*, errW_none, errW_some] <;> rfl), by repeat (first | (with_reducible first | exact HB.out | apply below_alloc | apply pw_below_drewN | apply below_drew1 | refine below_set ?_ (IsS55.ge HI520.out) | refine below_set ?_ GE526.out) | exact HB.out)⟩

/-! ### impl_RecoverLog: function 28 -/
def impl_RecoverLog.f (k : Nat) (a0 : ByteArray) : Option (ByteArray × ByteArray × Int × Int × Bool) := if (a0.size : Int) > 30000 then (some ((⟨#[]⟩ : ByteArray), (⟨#[]⟩ : ByteArray), 0, 0, false)) else ((impl_recovered.f k a0).bind fun bt554 => (if 0 ≤ bt554.2 then (if bt554.2 ≤ (a0.size : Int) then (some (a0.extract 0 (bt554.2 : Int).toNat, (⟨#[]⟩ : ByteArray), (bt554.1.length : Int), bt554.2, true)) else (none)) else (none)))
theorem impl_RecoverLog.mono : ∀ a0 k, LeO (impl_RecoverLog.f k a0) (impl_RecoverLog.f (k + 1) a0) := by
 intro a0 k
 unfold impl_RecoverLog.f
 repeat' first
   | (with_reducible exact impl_recovered.mono _ _)
   | (with_reducible exact LeO.refl _)
   | (with_reducible exact LeO.none _)
   | (with_reducible refine LeO.ite ?_ ?_)
   | (with_reducible refine LeO.bind ?_ (fun _ => ?_))
   | exact impl_recovered.mono _ _
   | exact LeO.none _
   | refine LeO.ite ?_ ?_
   | refine LeO.bind ?_ (fun _ => ?_)
set_option maxHeartbeats 8000000 in
set_option maxRecDepth 100000 in
theorem impl_RecoverLog.calls (k : Nat) (a0 : ByteArray) (r1 : ByteArray) (r2 : ByteArray) (r3 : Int) (r4 : Int) (r5 : Bool) (w : World) (h : impl_RecoverLog.f k a0 = some (r1, r2, r3, r4, r5)) :
  Calls Try.prog 28 #[.string a0] w fun e w' => e = .returned (.tuple #[.agg #[.string r1, .string r2, .int .i64 r3], .int .i64 r4, .bool r5]) ∧ Below w.heap.size w w' := by
 have hu33 := Try.underlying33
 have HB := Aside0.mk (Below.refl w.heap.size w)
 have H : (if (a0.size : Int) > 30000 then (some ((⟨#[]⟩ : ByteArray), (⟨#[]⟩ : ByteArray), 0, 0, false)) else ((impl_recovered.f k a0).bind fun bt554 => (if 0 ≤ bt554.2 then (if bt554.2 ≤ (a0.size : Int) then (some (a0.extract 0 (bt554.2 : Int).toNat, (⟨#[]⟩ : ByteArray), (bt554.1.length : Int), bt554.2, true)) else (none)) else (none)))) = some (r1, r2, r3, r4, r5) := h
 clear h
 by_cases c2 : (a0.size : Int) > 30000
 ·rw [if_pos c2] at H
  have c2b0 : decide (30000 < (a0.size : Int)) = true := decide_eq_true c2
  have c2b1 : decide (30000 < a0.size) = true := decide_eq_true (by omega)
  clear c2
  simp only [Option.some.injEq, Prod.mk.injEq] at H
  obtain ⟨rfl, rfl, rfl, rfl, rfl⟩ := H
  go_enter Try.func28, Try.ntmps28
  go_wp2_with (first | ((with_reducible refine gate_dst (N := 2) rfl ?_); refine box_event ?hg (N := 2) ?hd (cs := #[.string (⟨#[]⟩ : ByteArray), .string (⟨#[]⟩ : ByteArray), .int .i64 0]) (t := 33) ?hr ?_; (case hd => rfl); (case hg => rfl); (case hr => first | (go_simp; done) | (go_simp; rfl)); intro gb553 hg w3 hbox hb; have n0_ := Aside0.mk (below_step (bw HB.out) hb); have n1_ := Aside0.mk (hbox); have n2_ := ge_ hg HB.out; have n3_ := ge_ hg HB.out; replace HB := n0_; have BK553 := n1_; have GW553 := n2_; have GE553 := n3_; clear n0_ n1_ n2_ n3_; clear hb hbox hg; obtain ⟨hcz4_0, hcz4_1, hcz4_2, hfz4_0, hfz4_1, hfz4_2⟩ := bz3 BK553.out))
  refine bodyPost_ret (results_ctt rfl _ _ gb553 33 #[.string (⟨#[]⟩ : ByteArray), .string (⟨#[]⟩ : ByteArray), .int .i64 0] (0, 0) _ rfl (by (with_reducible repeat (first | refine blk_drewN ?_ _ | refine blk_drew ?_ | refine blk_alloc ?_ _)); refine blk_put (cs := #[.string (⟨#[]⟩ : ByteArray), .string (⟨#[]⟩ : ByteArray), .int .i64 0]) ?_ 2 _ rfl; (with_reducible repeat (first | refine blk_drewN ?_ _ | refine blk_drew ?_ | refine blk_alloc ?_ _)); refine blk_put (cs := #[.string (⟨#[]⟩ : ByteArray), .string (⟨#[]⟩ : ByteArray), .int .i64 0]) ?_ 1 _ rfl; (with_reducible repeat (first | refine blk_drewN ?_ _ | refine blk_drew ?_ | refine blk_alloc ?_ _)); refine blk_put (cs := #[.string (⟨#[]⟩ : ByteArray), .string (⟨#[]⟩ : ByteArray), .int .i64 0]) ?_ 0 _ rfl; exact bs BK553.out) Try.underlying33 rfl (by kernel_rfl)) rfl ?_
  exact ⟨by first | rfl | (simp [errW_none, errW_some] <;> rfl) | (simp [*, errW_none, errW_some] <;> rfl), by repeat (first | (with_reducible first | exact bw HB.out | refine bset ?_ | apply bA | apply bN | apply bD) | exact HB.out)⟩
 rw [if_neg c2] at H
 have c2b0 : decide (30000 < (a0.size : Int)) = false := decide_eq_false c2
 have c2b1 : decide (30000 < a0.size) = false := decide_eq_false (by omega)
 clear c2
 replace H := Option.bind_eq_some_iff.mp H
 obtain ⟨⟨t554, t555⟩, A50, H⟩ := H
 replace H : (if 0 ≤ t555 then (if t555 ≤ (a0.size : Int) then (some (a0.extract 0 (t555 : Int).toNat, (⟨#[]⟩ : ByteArray), (t554.length : Int), t555, true)) else (none)) else (none)) = some (r1, r2, r3, r4, r5) := H
 have A5 := Aside0.mk A50
 clear A50
 by_cases c6 : 0 ≤ t555
 rotate_left
 ·rw [if_neg c6] at H
  exact absurd H (by simp)
 rw [if_pos c6] at H
 have c6b0 := eq_true c6
 have c6b1 : decide (0 ≤ t555) = true := decide_eq_true c6
 clear c6
 by_cases c7 : t555 ≤ (a0.size : Int)
 rotate_left
 ·rw [if_neg c7] at H
  exact absurd H (by simp)
 rw [if_pos c7] at H
 have c7b0 := eq_true c7
 have c7b1 : decide (t555 ≤ (a0.size : Int)) = true := decide_eq_true c7
 clear c7
 simp only [Option.some.injEq, Prod.mk.injEq] at H
 obtain ⟨rfl, rfl, rfl, rfl, rfl⟩ := H
 go_enter Try.func28, Try.ntmps28
 go_wp2_with (first | ((with_reducible refine gate_dst (N := 2) rfl ?_); refine box_event ?hg (N := 2) ?hd (cs := #[.string (⟨#[]⟩ : ByteArray), .string (⟨#[]⟩ : ByteArray), .int .i64 0]) (t := 33) ?hr ?_; (case hd => rfl); (case hg => rfl); (case hr => first | (go_simp; done) | (go_simp; rfl)); intro gb553 hg w8 hbox hb; have n0_ := Aside0.mk (below_step (bw HB.out) hb); have n1_ := Aside0.mk (hbox); have n2_ := ge_ hg HB.out; have n3_ := ge_ hg HB.out; replace HB := n0_; have BK553 := n1_; have GW553 := n2_; have GE553 := n3_; clear n0_ n1_ n2_ n3_; clear hb hbox hg) | ((with_reducible refine gate_callee (f := 44) rfl ?_); refine goesL_ (some 13) rfl rfl Try.func44 (by kernel_rfl) rfl #[.string a0] rfl (by (try simp only [mA_]); first | done | rfl | (simp only [List.length_drop, List.length_take]; rfl)) ?_; (with_reducible refine (impl_recovered.calls k a0 t554 t555 _ A5.out).mono ?_); rintro e w9 ⟨v556, rfl, ho0, hb⟩; refine ⟨_, rfl, ?_⟩; have n0_ := Aside0.mk (Kd.R_lower ho0 (below_size (by repeat (first | (with_reducible first | exact bw HB.out | refine bset ?_ | apply bA | apply bN | apply bD) | exact HB.out)))); have n1_ := Aside0.mk (blk_below (bs BK553.out) hb); have n2_ := Aside0.mk (below_step (by repeat (first | (with_reducible first | exact bw HB.out | refine bset ?_ | apply bA | apply bN | apply bD) | exact HB.out)) hb); have HO557 := n0_; replace BK553 := n1_; replace HB := n2_; clear n0_ n1_ n2_; (try clear hb); (try clear hb2); (try clear hk); (try clear hi); (try clear ho0); obtain ⟨Ao10, co10, eo10⟩ := Kd.R_slice HO557.out; subst eo10; obtain ⟨hcz11_0, hcz11_1, hcz11_2, hfz11_0, hfz11_1, hfz11_2⟩ := bz3 BK553.out))
 refine bodyPost_ret (results_ctt rfl _ _ gb553 33 #[.string (a0.extract 0 (t555 : Int).toNat), .string (⟨#[]⟩ : ByteArray), .int .i64 (t554.length : Int)] (0, 0) _ rfl (by (with_reducible repeat (first | refine blk_drewN ?_ _ | refine blk_drew ?_ | refine blk_alloc ?_ _)); refine blk_put (cs := #[.string (a0.extract 0 (t555 : Int).toNat), .string (⟨#[]⟩ : ByteArray), .int .i64 0]) ?_ 2 _ rfl; (with_reducible repeat (first | refine blk_drewN ?_ _ | refine blk_drew ?_ | refine blk_alloc ?_ _)); refine blk_put (cs := #[.string (a0.extract 0 (t555 : Int).toNat), .string (⟨#[]⟩ : ByteArray), .int .i64 0]) ?_ 1 _ rfl; (with_reducible repeat (first | refine blk_drewN ?_ _ | refine blk_drew ?_ | refine blk_alloc ?_ _)); refine blk_put (cs := #[.string (⟨#[]⟩ : ByteArray), .string (⟨#[]⟩ : ByteArray), .int .i64 0]) ?_ 0 _ rfl; exact bs BK553.out) Try.underlying33 rfl (by kernel_rfl)) rfl ?_
 exact ⟨by first | rfl | (simp [errW_none, errW_some] <;> rfl) | (simp [*, errW_none, errW_some] <;> rfl), by repeat (first | (with_reducible first | exact bw HB.out | refine bset ?_ | apply bA | apply bN | apply bD) | exact HB.out)⟩

/-! ### spec_RecoverLog: function 29 -/
def spec_RecoverLog.f (k : Nat) (a0 : ByteArray) : Option (ByteArray × ByteArray × Int × Int × Bool) := if (a0.size : Int) > 30000 then (some ((⟨#[]⟩ : ByteArray), (⟨#[]⟩ : ByteArray), 0, 0, false)) else ((spec_l12Open.f k a0).bind fun bt559 => (if 0 ≤ bt559.2 then (if bt559.2 ≤ (a0.size : Int) then (some (a0.extract 0 (bt559.2 : Int).toNat, (⟨#[]⟩ : ByteArray), (bt559.1.length : Int), bt559.2, true)) else (none)) else (none)))
theorem spec_RecoverLog.mono : ∀ a0 k, LeO (spec_RecoverLog.f k a0) (spec_RecoverLog.f (k + 1) a0) := by
 intro a0 k
 unfold spec_RecoverLog.f
 repeat' first
   | (with_reducible exact spec_l12Open.mono _ _)
   | (with_reducible exact LeO.refl _)
   | (with_reducible exact LeO.none _)
   | (with_reducible refine LeO.ite ?_ ?_)
   | (with_reducible refine LeO.bind ?_ (fun _ => ?_))
   | exact spec_l12Open.mono _ _
   | exact LeO.none _
   | refine LeO.ite ?_ ?_
   | refine LeO.bind ?_ (fun _ => ?_)
set_option maxHeartbeats 8000000 in
set_option maxRecDepth 100000 in
theorem spec_RecoverLog.calls (k : Nat) (a0 : ByteArray) (r1 : ByteArray) (r2 : ByteArray) (r3 : Int) (r4 : Int) (r5 : Bool) (w : World) (h : spec_RecoverLog.f k a0 = some (r1, r2, r3, r4, r5)) :
  Calls Try.prog 29 #[.string a0] w fun e w' => e = .returned (.tuple #[.agg #[.string r1, .string r2, .int .i64 r3], .int .i64 r4, .bool r5]) ∧ Below w.heap.size w w' := by
 have hu33 := Try.underlying33
 have HB := Aside0.mk (Below.refl w.heap.size w)
 have H : (if (a0.size : Int) > 30000 then (some ((⟨#[]⟩ : ByteArray), (⟨#[]⟩ : ByteArray), 0, 0, false)) else ((spec_l12Open.f k a0).bind fun bt559 => (if 0 ≤ bt559.2 then (if bt559.2 ≤ (a0.size : Int) then (some (a0.extract 0 (bt559.2 : Int).toNat, (⟨#[]⟩ : ByteArray), (bt559.1.length : Int), bt559.2, true)) else (none)) else (none)))) = some (r1, r2, r3, r4, r5) := h
 clear h
 by_cases c2 : (a0.size : Int) > 30000
 ·rw [if_pos c2] at H
  have c2b0 : decide (30000 < (a0.size : Int)) = true := decide_eq_true c2
  have c2b1 : decide (30000 < a0.size) = true := decide_eq_true (by omega)
  clear c2
  simp only [Option.some.injEq, Prod.mk.injEq] at H
  obtain ⟨rfl, rfl, rfl, rfl, rfl⟩ := H
  go_enter Try.func29, Try.ntmps29
  go_wp2_with (first | ((with_reducible refine gate_dst (N := 2) rfl ?_); refine box_event ?hg (N := 2) ?hd (cs := #[.string (⟨#[]⟩ : ByteArray), .string (⟨#[]⟩ : ByteArray), .int .i64 0]) (t := 33) ?hr ?_; (case hd => rfl); (case hg => rfl); (case hr => first | (go_simp; done) | (go_simp; rfl)); intro gb558 hg w3 hbox hb; have n0_ := Aside0.mk (below_step (bw HB.out) hb); have n1_ := Aside0.mk (hbox); have n2_ := ge_ hg HB.out; have n3_ := ge_ hg HB.out; replace HB := n0_; have BK558 := n1_; have GW558 := n2_; have GE558 := n3_; clear n0_ n1_ n2_ n3_; clear hb hbox hg; obtain ⟨hcz4_0, hcz4_1, hcz4_2, hfz4_0, hfz4_1, hfz4_2⟩ := bz3 BK558.out))
  refine bodyPost_ret (results_ctt rfl _ _ gb558 33 #[.string (⟨#[]⟩ : ByteArray), .string (⟨#[]⟩ : ByteArray), .int .i64 0] (0, 0) _ rfl (by (with_reducible repeat (first | refine blk_drewN ?_ _ | refine blk_drew ?_ | refine blk_alloc ?_ _)); refine blk_put (cs := #[.string (⟨#[]⟩ : ByteArray), .string (⟨#[]⟩ : ByteArray), .int .i64 0]) ?_ 2 _ rfl; (with_reducible repeat (first | refine blk_drewN ?_ _ | refine blk_drew ?_ | refine blk_alloc ?_ _)); refine blk_put (cs := #[.string (⟨#[]⟩ : ByteArray), .string (⟨#[]⟩ : ByteArray), .int .i64 0]) ?_ 1 _ rfl; (with_reducible repeat (first | refine blk_drewN ?_ _ | refine blk_drew ?_ | refine blk_alloc ?_ _)); refine blk_put (cs := #[.string (⟨#[]⟩ : ByteArray), .string (⟨#[]⟩ : ByteArray), .int .i64 0]) ?_ 0 _ rfl; exact bs BK558.out) Try.underlying33 rfl (by kernel_rfl)) rfl ?_
  exact ⟨by first | rfl | (simp [errW_none, errW_some] <;> rfl) | (simp [*, errW_none, errW_some] <;> rfl), by repeat (first | (with_reducible first | exact bw HB.out | refine bset ?_ | apply bA | apply bN | apply bD) | exact HB.out)⟩
 rw [if_neg c2] at H
 have c2b0 : decide (30000 < (a0.size : Int)) = false := decide_eq_false c2
 have c2b1 : decide (30000 < a0.size) = false := decide_eq_false (by omega)
 clear c2
 replace H := Option.bind_eq_some_iff.mp H
 obtain ⟨⟨t559, t560⟩, A50, H⟩ := H
 replace H : (if 0 ≤ t560 then (if t560 ≤ (a0.size : Int) then (some (a0.extract 0 (t560 : Int).toNat, (⟨#[]⟩ : ByteArray), (t559.length : Int), t560, true)) else (none)) else (none)) = some (r1, r2, r3, r4, r5) := H
 have A5 := Aside0.mk A50
 clear A50
 by_cases c6 : 0 ≤ t560
 rotate_left
 ·rw [if_neg c6] at H
  exact absurd H (by simp)
 rw [if_pos c6] at H
 have c6b0 := eq_true c6
 have c6b1 : decide (0 ≤ t560) = true := decide_eq_true c6
 clear c6
 by_cases c7 : t560 ≤ (a0.size : Int)
 rotate_left
 ·rw [if_neg c7] at H
  exact absurd H (by simp)
 rw [if_pos c7] at H
 have c7b0 := eq_true c7
 have c7b1 : decide (t560 ≤ (a0.size : Int)) = true := decide_eq_true c7
 clear c7
 simp only [Option.some.injEq, Prod.mk.injEq] at H
 obtain ⟨rfl, rfl, rfl, rfl, rfl⟩ := H
 go_enter Try.func29, Try.ntmps29
 go_wp2_with (first | ((with_reducible refine gate_dst (N := 2) rfl ?_); refine box_event ?hg (N := 2) ?hd (cs := #[.string (⟨#[]⟩ : ByteArray), .string (⟨#[]⟩ : ByteArray), .int .i64 0]) (t := 33) ?hr ?_; (case hd => rfl); (case hg => rfl); (case hr => first | (go_simp; done) | (go_simp; rfl)); intro gb558 hg w8 hbox hb; have n0_ := Aside0.mk (below_step (bw HB.out) hb); have n1_ := Aside0.mk (hbox); have n2_ := ge_ hg HB.out; have n3_ := ge_ hg HB.out; replace HB := n0_; have BK558 := n1_; have GW558 := n2_; have GE558 := n3_; clear n0_ n1_ n2_ n3_; clear hb hbox hg) | ((with_reducible refine gate_callee (f := 45) rfl ?_); refine goesL_ (some 13) rfl rfl Try.func45 (by kernel_rfl) rfl #[.string a0] rfl (by (try simp only [mA_]); first | done | rfl | (simp only [List.length_drop, List.length_take]; rfl)) ?_; (with_reducible refine (spec_l12Open.calls k a0 t559 t560 _ A5.out).mono ?_); rintro e w9 ⟨v561, rfl, ho0, hb⟩; refine ⟨_, rfl, ?_⟩; have n0_ := Aside0.mk (Kd.R_lower ho0 (below_size (by repeat (first | (with_reducible first | exact bw HB.out | refine bset ?_ | apply bA | apply bN | apply bD) | exact HB.out)))); have n1_ := Aside0.mk (blk_below (bs BK558.out) hb); have n2_ := Aside0.mk (below_step (by repeat (first | (with_reducible first | exact bw HB.out | refine bset ?_ | apply bA | apply bN | apply bD) | exact HB.out)) hb); have HO562 := n0_; replace BK558 := n1_; replace HB := n2_; clear n0_ n1_ n2_; (try clear hb); (try clear hb2); (try clear hk); (try clear hi); (try clear ho0); obtain ⟨Ao10, co10, eo10⟩ := Kd.R_slice HO562.out; subst eo10; obtain ⟨hcz11_0, hcz11_1, hcz11_2, hfz11_0, hfz11_1, hfz11_2⟩ := bz3 BK558.out))
 refine bodyPost_ret (results_ctt rfl _ _ gb558 33 #[.string (a0.extract 0 (t560 : Int).toNat), .string (⟨#[]⟩ : ByteArray), .int .i64 (t559.length : Int)] (0, 0) _ rfl (by (with_reducible repeat (first | refine blk_drewN ?_ _ | refine blk_drew ?_ | refine blk_alloc ?_ _)); refine blk_put (cs := #[.string (a0.extract 0 (t560 : Int).toNat), .string (⟨#[]⟩ : ByteArray), .int .i64 0]) ?_ 2 _ rfl; (with_reducible repeat (first | refine blk_drewN ?_ _ | refine blk_drew ?_ | refine blk_alloc ?_ _)); refine blk_put (cs := #[.string (a0.extract 0 (t560 : Int).toNat), .string (⟨#[]⟩ : ByteArray), .int .i64 0]) ?_ 1 _ rfl; (with_reducible repeat (first | refine blk_drewN ?_ _ | refine blk_drew ?_ | refine blk_alloc ?_ _)); refine blk_put (cs := #[.string (⟨#[]⟩ : ByteArray), .string (⟨#[]⟩ : ByteArray), .int .i64 0]) ?_ 0 _ rfl; exact bs BK558.out) Try.underlying33 rfl (by kernel_rfl)) rfl ?_
 exact ⟨by first | rfl | (simp [errW_none, errW_some] <;> rfl) | (simp [*, errW_none, errW_some] <;> rfl), by repeat (first | (with_reducible first | exact bw HB.out | refine bset ?_ | apply bA | apply bN | apply bD) | exact HB.out)⟩

/-! ### laws_FnCrashes: function 4 -/
mutual
def laws_FnCrashes.j0 : Nat → Int → Bool → ByteArray → Bool → Bool → ByteArray → ByteArray → Int → Option (Bool)
 | 0, _, _, _, _, _, _, _, _ => none
 | k + 1, x4, x5, x6, x7, x83, x570000, x570001, x570002 => if x83 = true then (some false) else (if x7 = true then ((impl_RecoverLog.f k x6).bind fun bt590 => (if bt590.2.2.2.2 = true then ((impl_IsValidLog.f k bt590.1 bt590.2.1 bt590.2.2.1).bind fun t596 => (if t596 = true then (if bt590.2.2.2.1 < (x570000.size : Int) then (laws_FnCrashes.j1 k x4 x5 true x570000 x570001 x570002 bt590.1 bt590.2.1 bt590.2.2.1) else (laws_FnCrashes.j1 k x4 x5 ((bt590.1.size : Int) != bt590.2.2.2.1) x570000 x570001 x570002 bt590.1 bt590.2.1 bt590.2.2.1)) else (laws_FnCrashes.j1 k x4 x5 true x570000 x570001 x570002 bt590.1 bt590.2.1 bt590.2.2.1))) else (laws_FnCrashes.j1 k x4 x5 true x570000 x570001 x570002 bt590.1 bt590.2.1 bt590.2.2.1))) else (some true))
def laws_FnCrashes.j1 : Nat → Int → Bool → Bool → ByteArray → ByteArray → Int → ByteArray → ByteArray → Int → Option (Bool)
 | 0, _, _, _, _, _, _, _, _, _ => none
 | k + 1, x4, x5, x112, x570000, x570001, x570002, x596000, x596001, x596002 => if x112 = true then (some false) else ((impl_LogRecords.f k x570000 x570001 x570002).bind fun bt597 => ((impl_LogRecords.f k x596000 x596001 x596002).bind fun bt601 => (if (bt601.1.length : Int) ≤ (bt597.1.length : Int) then (if 0 ≤ (bt601.1.length : Int) then ((laws_vRecords.f k bt601.1 (bt597.1.take ((bt601.1.length : Int) : Int).toNat)).bind fun t609 => (if t609 = true then (if x5 = true then (some true) else (if x4 < (x570001.size : Int) then (some true) else (some ((bt601.1.length : Int) == (bt597.1.length : Int))))) else (some false))) else (none)) else (some false))))
end
def laws_FnCrashes.f (k : Nat) (l0 : List Int) : Option (Bool) := (laws_vBig.f l0).bind fun t563 => (if t563 = true then (some true) else ((spec_DrawCrashLog.f k l0).bind fun bt564 => ((impl_CrashLog.f k bt564.1 bt564.2.1 bt564.2.2.1 bt564.2.2.2.1 bt564.2.2.2.2).bind fun bt570 => ((spec_CrashLog.f k bt564.1 bt564.2.1 bt564.2.2.1 bt564.2.2.2.1 bt564.2.2.2.2).bind fun bt572 => ((laws_vCut.f l0 1).bind fun t574 => ((spec_DrawRecoverLog.f k t574).bind fun t577 => ((impl_RecoverLog.f k t577).bind fun bt578 => ((spec_RecoverLog.f k t577).bind fun bt584 => (if bt570.1.toList = bt572.1.toList then (if (bt570.2 != bt572.2) = true then (laws_FnCrashes.j0 k bt564.2.2.2.1 bt564.2.2.2.2 bt570.1 bt570.2 true bt564.1 bt564.2.1 bt564.2.2.1) else (if (!(bt578.1.toList == bt584.1.toList) || (!(bt578.2.1.toList == bt584.2.1.toList) || (!(bt578.2.2.1 == bt584.2.2.1)))) = true then (laws_FnCrashes.j0 k bt564.2.2.2.1 bt564.2.2.2.2 bt570.1 bt570.2 true bt564.1 bt564.2.1 bt564.2.2.1) else (if bt578.2.2.2.1 = bt584.2.2.2.1 then (laws_FnCrashes.j0 k bt564.2.2.2.1 bt564.2.2.2.2 bt570.1 bt570.2 (bt578.2.2.2.2 != bt584.2.2.2.2) bt564.1 bt564.2.1 bt564.2.2.1) else (laws_FnCrashes.j0 k bt564.2.2.2.1 bt564.2.2.2.2 bt570.1 bt570.2 true bt564.1 bt564.2.1 bt564.2.2.1)))) else (laws_FnCrashes.j0 k bt564.2.2.2.1 bt564.2.2.2.2 bt570.1 bt570.2 true bt564.1 bt564.2.1 bt564.2.2.1))))))))))
theorem laws_FnCrashes.mono_l : ∀ k, (∀ y0 y1 y2 y3 y4 y5 y6 y7, LeO (laws_FnCrashes.j0 k y0 y1 y2 y3 y4 y5 y6 y7) (laws_FnCrashes.j0 (k + 1) y0 y1 y2 y3 y4 y5 y6 y7)) ∧ (∀ y0 y1 y2 y3 y4 y5 y6 y7 y8, LeO (laws_FnCrashes.j1 k y0 y1 y2 y3 y4 y5 y6 y7 y8) (laws_FnCrashes.j1 (k + 1) y0 y1 y2 y3 y4 y5 y6 y7 y8))
 | 0 => ⟨fun _ _ _ _ _ _ _ _ r h => by simp [laws_FnCrashes.j0] at h, fun _ _ _ _ _ _ _ _ _ r h => by simp [laws_FnCrashes.j1] at h⟩
 | k + 1 => by
  obtain ⟨ih0, ih1⟩ := laws_FnCrashes.mono_l k
  refine ⟨?_, ?_⟩
  ·intro y0 y1 y2 y3 y4 y5 y6 y7
   unfold laws_FnCrashes.j0
   repeat' first
   | (with_reducible exact ih0 _ _ _ _ _ _ _ _)
   | (with_reducible exact ih1 _ _ _ _ _ _ _ _ _)
   | (with_reducible exact impl_CrashLog.mono _ _ _ _ _ _)
   | (with_reducible exact impl_IsValidLog.mono _ _ _ _)
   | (with_reducible exact impl_LogRecords.mono _ _ _ _)
   | (with_reducible exact impl_RecoverLog.mono _ _)
   | (with_reducible exact laws_vRecords.mono _ _ _)
   | (with_reducible exact spec_CrashLog.mono _ _ _ _ _ _)
   | (with_reducible exact spec_DrawCrashLog.mono _ _)
   | (with_reducible exact spec_DrawRecoverLog.mono _ _)
   | (with_reducible exact spec_RecoverLog.mono _ _)
   | (with_reducible exact LeO.refl _)
   | (with_reducible exact LeO.none _)
   | (with_reducible refine LeO.ite ?_ ?_)
   | (with_reducible refine LeO.bind ?_ (fun _ => ?_))
   | exact ih0 _ _ _ _ _ _ _ _
   | exact ih1 _ _ _ _ _ _ _ _ _
   | exact impl_CrashLog.mono _ _ _ _ _ _
   | exact impl_IsValidLog.mono _ _ _ _
   | exact impl_LogRecords.mono _ _ _ _
   | exact impl_RecoverLog.mono _ _
   | exact laws_vRecords.mono _ _ _
   | exact spec_CrashLog.mono _ _ _ _ _ _
   | exact spec_DrawCrashLog.mono _ _
   | exact spec_DrawRecoverLog.mono _ _
   | exact spec_RecoverLog.mono _ _
   | exact LeO.none _
   | refine LeO.ite ?_ ?_
   | refine LeO.bind ?_ (fun _ => ?_)
  ·intro y0 y1 y2 y3 y4 y5 y6 y7 y8
   unfold laws_FnCrashes.j1
   repeat' first
   | (with_reducible exact ih0 _ _ _ _ _ _ _ _)
   | (with_reducible exact ih1 _ _ _ _ _ _ _ _ _)
   | (with_reducible exact impl_CrashLog.mono _ _ _ _ _ _)
   | (with_reducible exact impl_IsValidLog.mono _ _ _ _)
   | (with_reducible exact impl_LogRecords.mono _ _ _ _)
   | (with_reducible exact impl_RecoverLog.mono _ _)
   | (with_reducible exact laws_vRecords.mono _ _ _)
   | (with_reducible exact spec_CrashLog.mono _ _ _ _ _ _)
   | (with_reducible exact spec_DrawCrashLog.mono _ _)
   | (with_reducible exact spec_DrawRecoverLog.mono _ _)
   | (with_reducible exact spec_RecoverLog.mono _ _)
   | (with_reducible exact LeO.refl _)
   | (with_reducible exact LeO.none _)
   | (with_reducible refine LeO.ite ?_ ?_)
   | (with_reducible refine LeO.bind ?_ (fun _ => ?_))
   | exact ih0 _ _ _ _ _ _ _ _
   | exact ih1 _ _ _ _ _ _ _ _ _
   | exact impl_CrashLog.mono _ _ _ _ _ _
   | exact impl_IsValidLog.mono _ _ _ _
   | exact impl_LogRecords.mono _ _ _ _
   | exact impl_RecoverLog.mono _ _
   | exact laws_vRecords.mono _ _ _
   | exact spec_CrashLog.mono _ _ _ _ _ _
   | exact spec_DrawCrashLog.mono _ _
   | exact spec_DrawRecoverLog.mono _ _
   | exact spec_RecoverLog.mono _ _
   | exact LeO.none _
   | refine LeO.ite ?_ ?_
   | refine LeO.bind ?_ (fun _ => ?_)
theorem laws_FnCrashes.mono : ∀ a0 k, LeO (laws_FnCrashes.f k a0) (laws_FnCrashes.f (k + 1) a0) := by
 intro a0 k
 obtain ⟨ih0, ih1⟩ := laws_FnCrashes.mono_l k
 unfold laws_FnCrashes.f
 repeat' first
   | (with_reducible exact ih0 _ _ _ _ _ _ _ _)
   | (with_reducible exact ih1 _ _ _ _ _ _ _ _ _)
   | (with_reducible exact impl_CrashLog.mono _ _ _ _ _ _)
   | (with_reducible exact impl_IsValidLog.mono _ _ _ _)
   | (with_reducible exact impl_LogRecords.mono _ _ _ _)
   | (with_reducible exact impl_RecoverLog.mono _ _)
   | (with_reducible exact laws_vRecords.mono _ _ _)
   | (with_reducible exact spec_CrashLog.mono _ _ _ _ _ _)
   | (with_reducible exact spec_DrawCrashLog.mono _ _)
   | (with_reducible exact spec_DrawRecoverLog.mono _ _)
   | (with_reducible exact spec_RecoverLog.mono _ _)
   | (with_reducible exact LeO.refl _)
   | (with_reducible exact LeO.none _)
   | (with_reducible refine LeO.ite ?_ ?_)
   | (with_reducible refine LeO.bind ?_ (fun _ => ?_))
   | exact ih0 _ _ _ _ _ _ _ _
   | exact ih1 _ _ _ _ _ _ _ _ _
   | exact impl_CrashLog.mono _ _ _ _ _ _
   | exact impl_IsValidLog.mono _ _ _ _
   | exact impl_LogRecords.mono _ _ _ _
   | exact impl_RecoverLog.mono _ _
   | exact laws_vRecords.mono _ _ _
   | exact spec_CrashLog.mono _ _ _ _ _ _
   | exact spec_DrawCrashLog.mono _ _
   | exact spec_DrawRecoverLog.mono _ _
   | exact spec_RecoverLog.mono _ _
   | exact LeO.none _
   | refine LeO.ite ?_ ?_
   | refine LeO.bind ?_ (fun _ => ?_)
set_option maxHeartbeats 8000000 in
set_option maxRecDepth 100000 in
theorem laws_FnCrashes.calls (k : Nat) (A0 : Option Addr) (c0 : Nat) (l0 : List Int) (r : Bool) (w : World) (hr0 : Kd.C (Kd.int .u8) w A0 l0.length l0) (hc0 : l0.length ≤ c0) (h : laws_FnCrashes.f k l0 = some r) :
  Calls Try.prog 4 #[.slice A0 l0.length c0] w fun e w' => e = .returned (.bool r) ∧ Below w.heap.size w w' := by
 have hu33 := Try.underlying33
 have HR0 := Aside0.mk hr0
 have HC0 := Aside0.mk hc0
 clear hr0 hc0
 have HB := Aside0.mk (Below.refl w.heap.size w)
 have H : ((laws_vBig.f l0).bind fun t563 => (if t563 = true then (some true) else ((spec_DrawCrashLog.f k l0).bind fun bt564 => ((impl_CrashLog.f k bt564.1 bt564.2.1 bt564.2.2.1 bt564.2.2.2.1 bt564.2.2.2.2).bind fun bt570 => ((spec_CrashLog.f k bt564.1 bt564.2.1 bt564.2.2.1 bt564.2.2.2.1 bt564.2.2.2.2).bind fun bt572 => ((laws_vCut.f l0 1).bind fun t574 => ((spec_DrawRecoverLog.f k t574).bind fun t577 => ((impl_RecoverLog.f k t577).bind fun bt578 => ((spec_RecoverLog.f k t577).bind fun bt584 => (if bt570.1.toList = bt572.1.toList then (if (bt570.2 != bt572.2) = true then (laws_FnCrashes.j0 k bt564.2.2.2.1 bt564.2.2.2.2 bt570.1 bt570.2 true bt564.1 bt564.2.1 bt564.2.2.1) else (if (!(bt578.1.toList == bt584.1.toList) || (!(bt578.2.1.toList == bt584.2.1.toList) || (!(bt578.2.2.1 == bt584.2.2.1)))) = true then (laws_FnCrashes.j0 k bt564.2.2.2.1 bt564.2.2.2.2 bt570.1 bt570.2 true bt564.1 bt564.2.1 bt564.2.2.1) else (if bt578.2.2.2.1 = bt584.2.2.2.1 then (laws_FnCrashes.j0 k bt564.2.2.2.1 bt564.2.2.2.2 bt570.1 bt570.2 (bt578.2.2.2.2 != bt584.2.2.2.2) bt564.1 bt564.2.1 bt564.2.2.1) else (laws_FnCrashes.j0 k bt564.2.2.2.1 bt564.2.2.2.2 bt570.1 bt570.2 true bt564.1 bt564.2.1 bt564.2.2.1)))) else (laws_FnCrashes.j0 k bt564.2.2.2.1 bt564.2.2.2.2 bt570.1 bt570.2 true bt564.1 bt564.2.1 bt564.2.2.1))))))))))) = some r := h
 clear h
 replace H := Option.bind_eq_some_iff.mp H
 obtain ⟨t563, A20, H⟩ := H
 replace H : (if t563 = true then (some true) else ((spec_DrawCrashLog.f k l0).bind fun bt564 => ((impl_CrashLog.f k bt564.1 bt564.2.1 bt564.2.2.1 bt564.2.2.2.1 bt564.2.2.2.2).bind fun bt570 => ((spec_CrashLog.f k bt564.1 bt564.2.1 bt564.2.2.1 bt564.2.2.2.1 bt564.2.2.2.2).bind fun bt572 => ((laws_vCut.f l0 1).bind fun t574 => ((spec_DrawRecoverLog.f k t574).bind fun t577 => ((impl_RecoverLog.f k t577).bind fun bt578 => ((spec_RecoverLog.f k t577).bind fun bt584 => (if bt570.1.toList = bt572.1.toList then (if (bt570.2 != bt572.2) = true then (laws_FnCrashes.j0 k bt564.2.2.2.1 bt564.2.2.2.2 bt570.1 bt570.2 true bt564.1 bt564.2.1 bt564.2.2.1) else (if (!(bt578.1.toList == bt584.1.toList) || (!(bt578.2.1.toList == bt584.2.1.toList) || (!(bt578.2.2.1 == bt584.2.2.1)))) = true then (laws_FnCrashes.j0 k bt564.2.2.2.1 bt564.2.2.2.2 bt570.1 bt570.2 true bt564.1 bt564.2.1 bt564.2.2.1) else (if bt578.2.2.2.1 = bt584.2.2.2.1 then (laws_FnCrashes.j0 k bt564.2.2.2.1 bt564.2.2.2.2 bt570.1 bt570.2 (bt578.2.2.2.2 != bt584.2.2.2.2) bt564.1 bt564.2.1 bt564.2.2.1) else (laws_FnCrashes.j0 k bt564.2.2.2.1 bt564.2.2.2.2 bt570.1 bt570.2 true bt564.1 bt564.2.1 bt564.2.2.1)))) else (laws_FnCrashes.j0 k bt564.2.2.2.1 bt564.2.2.2.2 bt570.1 bt570.2 true bt564.1 bt564.2.1 bt564.2.2.1)))))))))) = some r := H
 have A2 := Aside0.mk A20
 clear A20
 by_cases c3 : t563 = true
 ·subst c3
  have H1 : (some true) = some r := by rw [if_pos rfl] at H; exact H
  clear H
  have H := H1
  clear H1
  obtain rfl := Option.some.inj H
  go_enter Try.func4, Try.ntmps4
  go_wp2_with (first | ((with_reducible refine gate_callee (f := 5) rfl ?_); refine goesL_ (some 25) rfl rfl Try.func5 (by kernel_rfl) rfl #[.slice A0 l0.length c0] rfl (by (try simp only [mA_]); first | done | rfl | (simp only [List.length_drop, List.length_take]; rfl)) ?_; (with_reducible refine (laws_vBig.calls _ _ l0 true _ ?side1 ?side2 A2.out).mono ?_); (case side1 => repeat (first | exact HR0.out | (with_reducible refine Kd.C_alloc ?_ _) | (with_reducible refine Kd.C_drewN ?_ _) | (with_reducible refine Kd.C_drew ?_))); (case side2 => exact HC0.out); rintro e w' ⟨rfl, ⟨nd, rfl⟩⟩; refine ⟨_, rfl, ?_⟩))
  go_ret
  exact ⟨by first | rfl | (simp [errW_none, errW_some] <;> rfl) | (simp [*, errW_none, errW_some] <;> rfl), bw HB.out⟩
 replace c3 := Bool.eq_false_iff.mpr c3
 subst c3
 have H1 : ((spec_DrawCrashLog.f k l0).bind fun bt564 => ((impl_CrashLog.f k bt564.1 bt564.2.1 bt564.2.2.1 bt564.2.2.2.1 bt564.2.2.2.2).bind fun bt570 => ((spec_CrashLog.f k bt564.1 bt564.2.1 bt564.2.2.1 bt564.2.2.2.1 bt564.2.2.2.2).bind fun bt572 => ((laws_vCut.f l0 1).bind fun t574 => ((spec_DrawRecoverLog.f k t574).bind fun t577 => ((impl_RecoverLog.f k t577).bind fun bt578 => ((spec_RecoverLog.f k t577).bind fun bt584 => (if bt570.1.toList = bt572.1.toList then (if (bt570.2 != bt572.2) = true then (laws_FnCrashes.j0 k bt564.2.2.2.1 bt564.2.2.2.2 bt570.1 bt570.2 true bt564.1 bt564.2.1 bt564.2.2.1) else (if (!(bt578.1.toList == bt584.1.toList) || (!(bt578.2.1.toList == bt584.2.1.toList) || (!(bt578.2.2.1 == bt584.2.2.1)))) = true then (laws_FnCrashes.j0 k bt564.2.2.2.1 bt564.2.2.2.2 bt570.1 bt570.2 true bt564.1 bt564.2.1 bt564.2.2.1) else (if bt578.2.2.2.1 = bt584.2.2.2.1 then (laws_FnCrashes.j0 k bt564.2.2.2.1 bt564.2.2.2.2 bt570.1 bt570.2 (bt578.2.2.2.2 != bt584.2.2.2.2) bt564.1 bt564.2.1 bt564.2.2.1) else (laws_FnCrashes.j0 k bt564.2.2.2.1 bt564.2.2.2.2 bt570.1 bt570.2 true bt564.1 bt564.2.1 bt564.2.2.1)))) else (laws_FnCrashes.j0 k bt564.2.2.2.1 bt564.2.2.2.2 bt570.1 bt570.2 true bt564.1 bt564.2.1 bt564.2.2.1))))))))) = some r := by rw [if_neg (show ¬ (false = true) by decide)] at H; exact H
 clear H
 have H := H1
 clear H1
 replace H := Option.bind_eq_some_iff.mp H
 obtain ⟨⟨t564, t565, t566, t567, t568⟩, A40, H⟩ := H
 replace H : ((impl_CrashLog.f k t564 t565 t566 t567 t568).bind fun bt570 => ((spec_CrashLog.f k t564 t565 t566 t567 t568).bind fun bt572 => ((laws_vCut.f l0 1).bind fun t574 => ((spec_DrawRecoverLog.f k t574).bind fun t577 => ((impl_RecoverLog.f k t577).bind fun bt578 => ((spec_RecoverLog.f k t577).bind fun bt584 => (if bt570.1.toList = bt572.1.toList then (if (bt570.2 != bt572.2) = true then (laws_FnCrashes.j0 k t567 t568 bt570.1 bt570.2 true t564 t565 t566) else (if (!(bt578.1.toList == bt584.1.toList) || (!(bt578.2.1.toList == bt584.2.1.toList) || (!(bt578.2.2.1 == bt584.2.2.1)))) = true then (laws_FnCrashes.j0 k t567 t568 bt570.1 bt570.2 true t564 t565 t566) else (if bt578.2.2.2.1 = bt584.2.2.2.1 then (laws_FnCrashes.j0 k t567 t568 bt570.1 bt570.2 (bt578.2.2.2.2 != bt584.2.2.2.2) t564 t565 t566) else (laws_FnCrashes.j0 k t567 t568 bt570.1 bt570.2 true t564 t565 t566)))) else (laws_FnCrashes.j0 k t567 t568 bt570.1 bt570.2 true t564 t565 t566)))))))) = some r := H
 have A4 := Aside0.mk A40
 clear A40
 replace H := Option.bind_eq_some_iff.mp H
 obtain ⟨⟨t570, t571⟩, A50, H⟩ := H
 replace H : ((spec_CrashLog.f k t564 t565 t566 t567 t568).bind fun bt572 => ((laws_vCut.f l0 1).bind fun t574 => ((spec_DrawRecoverLog.f k t574).bind fun t577 => ((impl_RecoverLog.f k t577).bind fun bt578 => ((spec_RecoverLog.f k t577).bind fun bt584 => (if t570.toList = bt572.1.toList then (if (t571 != bt572.2) = true then (laws_FnCrashes.j0 k t567 t568 t570 t571 true t564 t565 t566) else (if (!(bt578.1.toList == bt584.1.toList) || (!(bt578.2.1.toList == bt584.2.1.toList) || (!(bt578.2.2.1 == bt584.2.2.1)))) = true then (laws_FnCrashes.j0 k t567 t568 t570 t571 true t564 t565 t566) else (if bt578.2.2.2.1 = bt584.2.2.2.1 then (laws_FnCrashes.j0 k t567 t568 t570 t571 (bt578.2.2.2.2 != bt584.2.2.2.2) t564 t565 t566) else (laws_FnCrashes.j0 k t567 t568 t570 t571 true t564 t565 t566)))) else (laws_FnCrashes.j0 k t567 t568 t570 t571 true t564 t565 t566))))))) = some r := H
 have A5 := Aside0.mk A50
 clear A50
 replace H := Option.bind_eq_some_iff.mp H
 obtain ⟨⟨t572, t573⟩, A60, H⟩ := H
 replace H : ((laws_vCut.f l0 1).bind fun t574 => ((spec_DrawRecoverLog.f k t574).bind fun t577 => ((impl_RecoverLog.f k t577).bind fun bt578 => ((spec_RecoverLog.f k t577).bind fun bt584 => (if t570.toList = t572.toList then (if (t571 != t573) = true then (laws_FnCrashes.j0 k t567 t568 t570 t571 true t564 t565 t566) else (if (!(bt578.1.toList == bt584.1.toList) || (!(bt578.2.1.toList == bt584.2.1.toList) || (!(bt578.2.2.1 == bt584.2.2.1)))) = true then (laws_FnCrashes.j0 k t567 t568 t570 t571 true t564 t565 t566) else (if bt578.2.2.2.1 = bt584.2.2.2.1 then (laws_FnCrashes.j0 k t567 t568 t570 t571 (bt578.2.2.2.2 != bt584.2.2.2.2) t564 t565 t566) else (laws_FnCrashes.j0 k t567 t568 t570 t571 true t564 t565 t566)))) else (laws_FnCrashes.j0 k t567 t568 t570 t571 true t564 t565 t566)))))) = some r := H
 have A6 := Aside0.mk A60
 clear A60
 replace H := Option.bind_eq_some_iff.mp H
 obtain ⟨t574, A70, H⟩ := H
 replace H : ((spec_DrawRecoverLog.f k t574).bind fun t577 => ((impl_RecoverLog.f k t577).bind fun bt578 => ((spec_RecoverLog.f k t577).bind fun bt584 => (if t570.toList = t572.toList then (if (t571 != t573) = true then (laws_FnCrashes.j0 k t567 t568 t570 t571 true t564 t565 t566) else (if (!(bt578.1.toList == bt584.1.toList) || (!(bt578.2.1.toList == bt584.2.1.toList) || (!(bt578.2.2.1 == bt584.2.2.1)))) = true then (laws_FnCrashes.j0 k t567 t568 t570 t571 true t564 t565 t566) else (if bt578.2.2.2.1 = bt584.2.2.2.1 then (laws_FnCrashes.j0 k t567 t568 t570 t571 (bt578.2.2.2.2 != bt584.2.2.2.2) t564 t565 t566) else (laws_FnCrashes.j0 k t567 t568 t570 t571 true t564 t565 t566)))) else (laws_FnCrashes.j0 k t567 t568 t570 t571 true t564 t565 t566))))) = some r := H
 have A7 := Aside0.mk A70
 clear A70
 replace H := Option.bind_eq_some_iff.mp H
 obtain ⟨t577, A80, H⟩ := H
 replace H : ((impl_RecoverLog.f k t577).bind fun bt578 => ((spec_RecoverLog.f k t577).bind fun bt584 => (if t570.toList = t572.toList then (if (t571 != t573) = true then (laws_FnCrashes.j0 k t567 t568 t570 t571 true t564 t565 t566) else (if (!(bt578.1.toList == bt584.1.toList) || (!(bt578.2.1.toList == bt584.2.1.toList) || (!(bt578.2.2.1 == bt584.2.2.1)))) = true then (laws_FnCrashes.j0 k t567 t568 t570 t571 true t564 t565 t566) else (if bt578.2.2.2.1 = bt584.2.2.2.1 then (laws_FnCrashes.j0 k t567 t568 t570 t571 (bt578.2.2.2.2 != bt584.2.2.2.2) t564 t565 t566) else (laws_FnCrashes.j0 k t567 t568 t570 t571 true t564 t565 t566)))) else (laws_FnCrashes.j0 k t567 t568 t570 t571 true t564 t565 t566)))) = some r := H
 have A8 := Aside0.mk A80
 clear A80
 replace H := Option.bind_eq_some_iff.mp H
 obtain ⟨⟨t578, t579, t580, t581, t582⟩, A90, H⟩ := H
 replace H : ((spec_RecoverLog.f k t577).bind fun bt584 => (if t570.toList = t572.toList then (if (t571 != t573) = true then (laws_FnCrashes.j0 k t567 t568 t570 t571 true t564 t565 t566) else (if (!(t578.toList == bt584.1.toList) || (!(t579.toList == bt584.2.1.toList) || (!(t580 == bt584.2.2.1)))) = true then (laws_FnCrashes.j0 k t567 t568 t570 t571 true t564 t565 t566) else (if t581 = bt584.2.2.2.1 then (laws_FnCrashes.j0 k t567 t568 t570 t571 (t582 != bt584.2.2.2.2) t564 t565 t566) else (laws_FnCrashes.j0 k t567 t568 t570 t571 true t564 t565 t566)))) else (laws_FnCrashes.j0 k t567 t568 t570 t571 true t564 t565 t566))) = some r := H
 have A9 := Aside0.mk A90
 clear A90
 replace H := Option.bind_eq_some_iff.mp H
 obtain ⟨⟨t584, t585, t586, t587, t588⟩, A100, H⟩ := H
 replace H : (if t570.toList = t572.toList then (if (t571 != t573) = true then (laws_FnCrashes.j0 k t567 t568 t570 t571 true t564 t565 t566) else (if (!(t578.toList == t584.toList) || (!(t579.toList == t585.toList) || (!(t580 == t586)))) = true then (laws_FnCrashes.j0 k t567 t568 t570 t571 true t564 t565 t566) else (if t581 = t587 then (laws_FnCrashes.j0 k t567 t568 t570 t571 (t582 != t588) t564 t565 t566) else (laws_FnCrashes.j0 k t567 t568 t570 t571 true t564 t565 t566)))) else (laws_FnCrashes.j0 k t567 t568 t570 t571 true t564 t565 t566)) = some r := H
 have A10 := Aside0.mk A100
 clear A100
 have HC11 := Aside0.mk H
 clear H
 go_enter Try.func4, Try.ntmps4
 go_upto_region 9 with (first | ((with_reducible refine gate_callee (f := 5) rfl ?_); refine goesL_ (some 25) rfl rfl Try.func5 (by kernel_rfl) rfl #[.slice A0 l0.length c0] rfl (by (try simp only [mA_]); first | done | rfl | (simp only [List.length_drop, List.length_take]; rfl)) ?_; (with_reducible refine (laws_vBig.calls _ _ l0 false _ ?side1 ?side2 A2.out).mono ?_); (case side1 => repeat (first | exact HR0.out | (with_reducible refine Kd.C_alloc ?_ _) | (with_reducible refine Kd.C_drewN ?_ _) | (with_reducible refine Kd.C_drew ?_))); (case side2 => exact HC0.out); rintro e w' ⟨rfl, ⟨nd, rfl⟩⟩; refine ⟨_, rfl, ?_⟩) | ((with_reducible refine gate_callee (f := 24) rfl ?_); refine goesL_ (some 28) rfl rfl Try.func24 (by kernel_rfl) rfl #[.slice A0 l0.length c0] rfl (by (try simp only [mA_]); first | done | rfl | (simp only [List.length_drop, List.length_take]; rfl)) ?_; (with_reducible refine (spec_DrawCrashLog.calls k _ _ l0 t564 t565 t566 t567 t568 _ ?side1 ?side2 A4.out).mono ?_); (case side1 => repeat (first | exact HR0.out | (with_reducible refine Kd.C_alloc ?_ _) | (with_reducible refine Kd.C_drewN ?_ _) | (with_reducible refine Kd.C_drew ?_))); (case side2 => exact HC0.out); rintro e w12 ⟨rfl, hb⟩; refine ⟨_, rfl, ?_⟩; have n0_ := Aside0.mk (below_step (bw HB.out) hb); replace HB := n0_; clear n0_; (try clear hb); (try clear hb2); (try clear hk); (try clear hi)) | ((with_reducible refine gate_dst (N := 3) rfl ?_); (try (refine gate_guard (by rfl) ?_; dsimp only)); refine box_event ?hg (N := 3) ?hd (cs := #[.string (⟨#[]⟩ : ByteArray), .string (⟨#[]⟩ : ByteArray), .int .i64 0]) (t := 33) ?hr ?_; (case hd => rfl); (case hg => rfl); (case hr => first | (go_simp; done) | (go_simp; rfl)); intro gb569 hg w13 hbox hb; have n0_ := Aside0.mk (below_step (bw HB.out) hb); have n1_ := Aside0.mk (hbox); have n2_ := ge_ hg HB.out; have n3_ := ge_ hg HB.out; replace HB := n0_; have BK569 := n1_; have GW569 := n2_; have GE569 := n3_; clear n0_ n1_ n2_ n3_; clear hb hbox hg; obtain ⟨hcz14_0, hcz14_1, hcz14_2, hfz14_0, hfz14_1, hfz14_2⟩ := bz3 BK569.out) | ((with_reducible refine gate_callee (f := 25) rfl ?_); refine goesL_ (some 36) rfl rfl Try.func25 (by kernel_rfl) rfl #[.agg #[.string t564, .string t565, .int .i64 t566], .int .i64 t567, .bool t568] rfl (by (try simp only [mA_]); first | done | rfl | (simp only [List.length_drop, List.length_take]; rfl)) ?_; (with_reducible refine (impl_CrashLog.calls k t564 t565 t566 t567 t568 t570 t571 _ A5.out).mono ?_); rintro e w15 ⟨rfl, hb⟩; refine ⟨_, rfl, ?_⟩; have n0_ := Aside0.mk (blk_below (g := gb569) (o := .cells #[.string t564, .string t565, .int .i64 t566] 33 (0, 0)) (by (with_reducible repeat (first | refine blk_drewN ?_ _ | refine blk_drew ?_ | refine blk_alloc ?_ _)); refine blk_put (cs := #[.string t564, .string t565, .int .i64 0]) ?_ 2 _ rfl; (with_reducible repeat (first | refine blk_drewN ?_ _ | refine blk_drew ?_ | refine blk_alloc ?_ _)); refine blk_put (cs := #[.string t564, .string (⟨#[]⟩ : ByteArray), .int .i64 0]) ?_ 1 _ rfl; (with_reducible repeat (first | refine blk_drewN ?_ _ | refine blk_drew ?_ | refine blk_alloc ?_ _)); refine blk_put (cs := #[.string (⟨#[]⟩ : ByteArray), .string (⟨#[]⟩ : ByteArray), .int .i64 0]) ?_ 0 _ rfl; exact bs BK569.out) hb); have n1_ := Aside0.mk (below_step (by repeat (first | (with_reducible first | exact bw HB.out | refine bset ?_ | apply bA | apply bN | apply bD) | exact HB.out)) hb); replace BK569 := n0_; replace HB := n1_; clear n0_ n1_; (try clear hb); (try clear hb2); (try clear hk); (try clear hi); obtain ⟨hcz16_0, hcz16_1, hcz16_2, hfz16_0, hfz16_1, hfz16_2⟩ := bz3 BK569.out) | ((with_reducible refine gate_callee (f := 26) rfl ?_); refine goesL_ (some 43) rfl rfl Try.func26 (by kernel_rfl) rfl #[.agg #[.string t564, .string t565, .int .i64 t566], .int .i64 t567, .bool t568] rfl (by (try simp only [mA_]); first | done | rfl | (simp only [List.length_drop, List.length_take]; rfl)) ?_; (with_reducible refine (spec_CrashLog.calls k t564 t565 t566 t567 t568 t572 t573 _ A6.out).mono ?_); rintro e w17 ⟨rfl, hb⟩; refine ⟨_, rfl, ?_⟩; have n0_ := Aside0.mk (blk_below (bs BK569.out) hb); have n1_ := Aside0.mk (below_step (by repeat (first | (with_reducible first | exact bw HB.out | refine bset ?_ | apply bA | apply bN | apply bD) | exact HB.out)) hb); replace BK569 := n0_; replace HB := n1_; clear n0_ n1_; (try clear hb); (try clear hb2); (try clear hk); (try clear hi)) | ((with_reducible refine gate_callee (f := 8) rfl ?_); refine goesL_ (some 47) rfl rfl Try.func8 (by kernel_rfl) rfl #[.slice A0 l0.length c0, .int .i64 1] rfl (by (try simp only [mA_]); first | done | rfl | (simp only [List.length_drop, List.length_take]; rfl)) ?_; (with_reducible refine (laws_vCut.calls _ _ l0 1 t574 _ ?side1 ?side2 A7.out).mono ?_); (case side1 => first | exact bC HR0.out HB.out | exact Kd.C_below HR0.out HB.out); (case side2 => exact HC0.out); rintro e w18 ⟨v575, rfl, ho0, hb⟩; refine ⟨_, rfl, ?_⟩; have n0_ := Aside0.mk (Kd.R_lower ho0 (below_size (by repeat (first | (with_reducible first | exact bw HB.out | refine bset ?_ | apply bA | apply bN | apply bD) | exact HB.out)))); have n1_ := Aside0.mk (blk_below (bs BK569.out) hb); have n2_ := Aside0.mk (below_step (by repeat (first | (with_reducible first | exact bw HB.out | refine bset ?_ | apply bA | apply bN | apply bD) | exact HB.out)) hb); have HO576 := n0_; replace BK569 := n1_; replace HB := n2_; clear n0_ n1_ n2_; (try clear hb); (try clear hb2); (try clear hk); (try clear hi); (try clear ho0); obtain ⟨Ao19, co19, eo19⟩ := Kd.R_slice HO576.out; subst eo19) | ((with_reducible refine gate_callee (f := 27) rfl ?_); refine goesL_ (some 48) rfl rfl Try.func27 (by kernel_rfl) rfl #[.slice Ao19 t574.length co19] rfl (by (try simp only [mA_]); first | done | rfl | (simp only [List.length_drop, List.length_take]; rfl)) ?_; (with_reducible refine (spec_DrawRecoverLog.calls k _ _ t574 t577 _ ?side1 ?side2 A8.out).mono ?_); (case side1 => repeat (first | exact (Kd.R_reads' HO576.out).2.2 | (with_reducible refine Kd.C_alloc ?_ _) | (with_reducible refine Kd.C_drewN ?_ _) | (with_reducible refine Kd.C_drew ?_))); (case side2 => exact (Kd.R_reads' HO576.out).2.1); rintro e w20 ⟨rfl, hb⟩; refine ⟨_, rfl, ?_⟩; have n0_ := Aside0.mk (Kd.R_below (bR HO576.out) hb); have n1_ := Aside0.mk (blk_below (bs BK569.out) hb); have n2_ := Aside0.mk (below_step (by repeat (first | (with_reducible first | exact bw HB.out | refine bset ?_ | apply bA | apply bN | apply bD) | exact HB.out)) hb); replace HO576 := n0_; replace BK569 := n1_; replace HB := n2_; clear n0_ n1_ n2_; (try clear hb); (try clear hb2); (try clear hk); (try clear hi)) | ((with_reducible refine gate_callee (f := 28) rfl ?_); refine goesL_ (some 51) rfl rfl Try.func28 (by kernel_rfl) rfl #[.string t577] rfl (by (try simp only [mA_]); first | done | rfl | (simp only [List.length_drop, List.length_take]; rfl)) ?_; (with_reducible refine (impl_RecoverLog.calls k t577 t578 t579 t580 t581 t582 _ A9.out).mono ?_); rintro e w21 ⟨rfl, hb⟩; refine ⟨_, rfl, ?_⟩; have n0_ := Aside0.mk (Kd.R_below (bR HO576.out) hb); have n1_ := Aside0.mk (blk_below (bs BK569.out) hb); have n2_ := Aside0.mk (below_step (by repeat (first | (with_reducible first | exact bw HB.out | refine bset ?_ | apply bA | apply bN | apply bD) | exact HB.out)) hb); replace HO576 := n0_; replace BK569 := n1_; replace HB := n2_; clear n0_ n1_ n2_; (try clear hb); (try clear hb2); (try clear hk); (try clear hi)) | ((with_reducible refine gate_dst (N := 11) rfl ?_); (try (refine gate_guard (by rfl) ?_; dsimp only)); refine box_event ?hg (N := 11) ?hd (cs := #[.string (⟨#[]⟩ : ByteArray), .string (⟨#[]⟩ : ByteArray), .int .i64 0]) (t := 33) ?hr ?_; (case hd => rfl); (case hg => rfl); (case hr => first | (go_simp; done) | (go_simp; rfl)); intro gb583 hg w22 hbox hb; have n0_ := Aside0.mk (Kd.R_below (bR HO576.out) hb); have n1_ := Aside0.mk (blk_below (bs BK569.out) hb); have n2_ := Aside0.mk (below_step (by repeat (first | (with_reducible first | exact bw HB.out | refine bset ?_ | apply bA | apply bN | apply bD) | exact HB.out)) hb); have n3_ := Aside0.mk (hbox); have n4_ := Aside0.mk ((by rw [hg]; exact (below_size (by repeat (first | (with_reducible first | exact bw HB.out | refine bset ?_ | apply bA | apply bN | apply bD) | exact HB.out))) : w.heap.size ≤ gb583)); have n5_ := Aside0.mk ((by rw [hg]; exact (below_size (by repeat (first | (with_reducible first | exact bw HB.out | refine bset ?_ | apply bA | apply bN | apply bD) | exact HB.out))) : w.heap.size ≤ gb583)); have n6_ := ne_ hg BK569.out; have n7_ := en_ hg BK569.out; replace HO576 := n0_; replace BK569 := n1_; replace HB := n2_; have BK583 := n3_; have GW583 := n4_; have GE583 := n5_; have NB569_583 := n6_; have NB583_569 := n7_; clear n0_ n1_ n2_ n3_ n4_ n5_ n6_ n7_; clear hb hbox hg; have hnb23 := NB583_569.out; have hnc23 := NB569_583.out; obtain ⟨hcz24_0, hcz24_1, hcz24_2, hfz24_0, hfz24_1, hfz24_2⟩ := bz3 BK583.out) | ((with_reducible refine gate_callee (f := 29) rfl ?_); refine goesL_ (some 57) rfl rfl Try.func29 (by kernel_rfl) rfl #[.string t577] rfl (by (try simp only [mA_]); first | done | rfl | (simp only [List.length_drop, List.length_take]; rfl)) ?_; (with_reducible refine (spec_RecoverLog.calls k t577 t584 t585 t586 t587 t588 _ A10.out).mono ?_); rintro e w25 ⟨rfl, hb⟩; refine ⟨_, rfl, ?_⟩; have n0_ := Aside0.mk (Kd.R_below (by (with_reducible repeat (first | apply Kd.R_alloc | apply Kd.R_drewN | apply Kd.R_drew)); exact (Kd.R_mono (Kd.R_far (p := ⟨gb583, 2, none⟩) (Kd.R_far (p := ⟨gb583, 1, none⟩) (Kd.R_far (p := ⟨gb583, 0, none⟩) (Kd.R_types HO576.out BK583.out (by decide)) (fun _ hk => hk.2) (.string t578)) (fun _ hk => hk.2) (.string t579)) (fun _ hk => hk.2) (.int .i64 t580)) (fun _ h_ => h_.1))) hb); have n1_ := Aside0.mk (blk_below (g := gb569) (o := .cells #[.string t564, .string t565, .int .i64 t566] 33 (0, 0)) (by (with_reducible repeat (first | refine blk_drewN ?_ _ | refine blk_drew ?_ | refine blk_alloc ?_ _)); refine blk_far ?_ NB569_583.out _; (with_reducible repeat (first | refine blk_drewN ?_ _ | refine blk_drew ?_ | refine blk_alloc ?_ _)); refine blk_far ?_ NB569_583.out _; (with_reducible repeat (first | refine blk_drewN ?_ _ | refine blk_drew ?_ | refine blk_alloc ?_ _)); refine blk_far ?_ NB569_583.out _; exact bs BK569.out) hb); have n2_ := Aside0.mk (blk_below (g := gb583) (o := .cells #[.string t578, .string t579, .int .i64 t580] 33 (0, 0)) (by (with_reducible repeat (first | refine blk_drewN ?_ _ | refine blk_drew ?_ | refine blk_alloc ?_ _)); refine blk_put (cs := #[.string t578, .string t579, .int .i64 0]) ?_ 2 _ rfl; (with_reducible repeat (first | refine blk_drewN ?_ _ | refine blk_drew ?_ | refine blk_alloc ?_ _)); refine blk_put (cs := #[.string t578, .string (⟨#[]⟩ : ByteArray), .int .i64 0]) ?_ 1 _ rfl; (with_reducible repeat (first | refine blk_drewN ?_ _ | refine blk_drew ?_ | refine blk_alloc ?_ _)); refine blk_put (cs := #[.string (⟨#[]⟩ : ByteArray), .string (⟨#[]⟩ : ByteArray), .int .i64 0]) ?_ 0 _ rfl; exact bs BK583.out) hb); have n3_ := Aside0.mk (below_step (by repeat (first | (with_reducible first | exact bw HB.out | refine bset ?_ | apply bA | apply bN | apply bD) | exact HB.out)) hb); replace HO576 := n0_; replace BK569 := n1_; replace BK583 := n2_; replace HB := n3_; clear n0_ n1_ n2_ n3_; (try clear hb); (try clear hb2); (try clear hk); (try clear hi)) | ((with_reducible refine gate_dst (N := 14) rfl ?_); (try (refine gate_guard (by rfl) ?_; dsimp only)); refine box_event ?hg (N := 14) ?hd (cs := #[.string (⟨#[]⟩ : ByteArray), .string (⟨#[]⟩ : ByteArray), .int .i64 0]) (t := 33) ?hr ?_; (case hd => rfl); (case hg => rfl); (case hr => first | (go_simp; done) | (go_simp; rfl)); intro gb589 hg w26 hbox hb; have n0_ := Aside0.mk (Kd.R_below (bR HO576.out) hb); have n1_ := Aside0.mk (blk_below (bs BK569.out) hb); have n2_ := Aside0.mk (blk_below (bs BK583.out) hb); have n3_ := Aside0.mk (below_step (by repeat (first | (with_reducible first | exact bw HB.out | refine bset ?_ | apply bA | apply bN | apply bD) | exact HB.out)) hb); have n4_ := Aside0.mk (hbox); have n5_ := Aside0.mk ((by rw [hg]; exact (below_size (by repeat (first | (with_reducible first | exact bw HB.out | refine bset ?_ | apply bA | apply bN | apply bD) | exact HB.out))) : w.heap.size ≤ gb589)); have n6_ := Aside0.mk ((by rw [hg]; exact (below_size (by repeat (first | (with_reducible first | exact bw HB.out | refine bset ?_ | apply bA | apply bN | apply bD) | exact HB.out))) : w.heap.size ≤ gb589)); have n7_ := ne_ hg BK569.out; have n8_ := en_ hg BK569.out; have n9_ := ne_ hg BK583.out; have n10_ := en_ hg BK583.out; replace HO576 := n0_; replace BK569 := n1_; replace BK583 := n2_; replace HB := n3_; have BK589 := n4_; have GW589 := n5_; have GE589 := n6_; have NB569_589 := n7_; have NB589_569 := n8_; have NB583_589 := n9_; have NB589_583 := n10_; clear n0_ n1_ n2_ n3_ n4_ n5_ n6_ n7_ n8_ n9_ n10_; clear hb hbox hg; have hnb27 := NB589_569.out; have hnc27 := NB569_589.out; have hnb28 := NB589_583.out; have hnc28 := NB583_589.out; obtain ⟨hcz29_0, hcz29_1, hcz29_2, hfz29_0, hfz29_1, hfz29_2⟩ := bz3 BK589.out))
 (try simp only [Act.put, List.setIfInBounds_toArray, List.set_cons_zero, List.set_cons_succ])
 go_cut [83] (fun v83 wc => ∃ (kq : Nat) (x83_10 : Bool), v83 = .bool x83_10 ∧ Aside0 (laws_FnCrashes.j0 kq t567 t568 t570 t571 x83_10 t564 t565 t566 = some r) ∧ Aside0 (kq ≤ k) ∧ Aside0 (wc.heap[gb569]? = some (.cells #[.string t564, .string t565, .int .i64 t566] 33 (0, 0))) ∧ Aside0 (wc.heap[gb583]? = some (.cells #[.string t578, .string t579, .int .i64 t580] 33 (0, 0))) ∧ Aside0 (wc.heap[gb589]? = some (.cells #[.string t584, .string t585, .int .i64 t586] 33 (0, 0))) ∧ Aside0 (Below w.heap.size w wc))
 case first =>
  have H := HC11.out
  clear HC11
  by_cases c30 : t570.toList = t572.toList
  rotate_left
  ·rw [if_neg c30] at H
   have c30b0 : (t570.toList == t572.toList) = false := beq_eq_false_iff_ne.mpr c30
   have c30b1 : (t570.toList != t572.toList) = true := bne_iff_ne.mpr c30
   (first | rw [c30b0] | (simp only [i64_w, i32_w]; rw [c30b0]) | skip)
   have H' := Aside0.mk H
   clear H
   go_wp2
   go_meet
   case rel => exact ⟨_, (true), (by first | rfl | (simp; done) | (simp [*]; done)), H', ⟨by first | omega | exact Nat.le_refl _⟩, ⟨by (with_reducible repeat (first | refine blk_drewN ?_ _ | refine blk_drew ?_ | refine blk_alloc ?_ _)); refine blk_far ?_ NB569_589.out _; (with_reducible repeat (first | refine blk_drewN ?_ _ | refine blk_drew ?_ | refine blk_alloc ?_ _)); refine blk_far ?_ NB569_589.out _; (with_reducible repeat (first | refine blk_drewN ?_ _ | refine blk_drew ?_ | refine blk_alloc ?_ _)); refine blk_far ?_ NB569_589.out _; exact bs BK569.out⟩, ⟨by (with_reducible repeat (first | refine blk_drewN ?_ _ | refine blk_drew ?_ | refine blk_alloc ?_ _)); refine blk_far ?_ NB583_589.out _; (with_reducible repeat (first | refine blk_drewN ?_ _ | refine blk_drew ?_ | refine blk_alloc ?_ _)); refine blk_far ?_ NB583_589.out _; (with_reducible repeat (first | refine blk_drewN ?_ _ | refine blk_drew ?_ | refine blk_alloc ?_ _)); refine blk_far ?_ NB583_589.out _; exact bs BK583.out⟩, ⟨by (with_reducible repeat (first | refine blk_drewN ?_ _ | refine blk_drew ?_ | refine blk_alloc ?_ _)); refine blk_put (cs := #[.string t584, .string t585, .int .i64 0]) ?_ 2 _ rfl; (with_reducible repeat (first | refine blk_drewN ?_ _ | refine blk_drew ?_ | refine blk_alloc ?_ _)); refine blk_put (cs := #[.string t584, .string (⟨#[]⟩ : ByteArray), .int .i64 0]) ?_ 1 _ rfl; (with_reducible repeat (first | refine blk_drewN ?_ _ | refine blk_drew ?_ | refine blk_alloc ?_ _)); refine blk_put (cs := #[.string (⟨#[]⟩ : ByteArray), .string (⟨#[]⟩ : ByteArray), .int .i64 0]) ?_ 0 _ rfl; exact bs BK589.out⟩, ⟨by repeat (first | (with_reducible first | exact bw HB.out | refine bset ?_ | apply bA | apply bN | apply bD) | exact HB.out)⟩⟩
  rw [if_pos c30] at H
  have c30b0 : (t570.toList == t572.toList) = true := beq_iff_eq.mpr c30
  have c30b1 : (t570.toList != t572.toList) = false := bne_eq_false_iff_eq.mpr c30
  clear c30
  (first | rw [c30b0] | (simp only [i64_w, i32_w]; rw [c30b0]) | skip)
  by_cases c31 : (t571 != t573) = true
  ·rw [if_pos c31] at H
   have c31b0 : (t571 != t573) = true := c31
   (try (have c31b1 : decide (t571 = t573) = false := by simpa using c31))
   (try (have c31b2 : (t571 == t573) = false := by simpa using c31))
   (try (have c31b3 : ¬ (t571 = t573) := by simpa using c31))
   clear c31
   have H' := Aside0.mk H
   clear H
   go_wp2
   go_meet
   case rel => exact ⟨_, (true), (by first | rfl | (simp; done) | (simp [*]; done)), H', ⟨by first | omega | exact Nat.le_refl _⟩, ⟨by (with_reducible repeat (first | refine blk_drewN ?_ _ | refine blk_drew ?_ | refine blk_alloc ?_ _)); refine blk_far ?_ NB569_589.out _; (with_reducible repeat (first | refine blk_drewN ?_ _ | refine blk_drew ?_ | refine blk_alloc ?_ _)); refine blk_far ?_ NB569_589.out _; (with_reducible repeat (first | refine blk_drewN ?_ _ | refine blk_drew ?_ | refine blk_alloc ?_ _)); refine blk_far ?_ NB569_589.out _; exact bs BK569.out⟩, ⟨by (with_reducible repeat (first | refine blk_drewN ?_ _ | refine blk_drew ?_ | refine blk_alloc ?_ _)); refine blk_far ?_ NB583_589.out _; (with_reducible repeat (first | refine blk_drewN ?_ _ | refine blk_drew ?_ | refine blk_alloc ?_ _)); refine blk_far ?_ NB583_589.out _; (with_reducible repeat (first | refine blk_drewN ?_ _ | refine blk_drew ?_ | refine blk_alloc ?_ _)); refine blk_far ?_ NB583_589.out _; exact bs BK583.out⟩, ⟨by (with_reducible repeat (first | refine blk_drewN ?_ _ | refine blk_drew ?_ | refine blk_alloc ?_ _)); refine blk_put (cs := #[.string t584, .string t585, .int .i64 0]) ?_ 2 _ rfl; (with_reducible repeat (first | refine blk_drewN ?_ _ | refine blk_drew ?_ | refine blk_alloc ?_ _)); refine blk_put (cs := #[.string t584, .string (⟨#[]⟩ : ByteArray), .int .i64 0]) ?_ 1 _ rfl; (with_reducible repeat (first | refine blk_drewN ?_ _ | refine blk_drew ?_ | refine blk_alloc ?_ _)); refine blk_put (cs := #[.string (⟨#[]⟩ : ByteArray), .string (⟨#[]⟩ : ByteArray), .int .i64 0]) ?_ 0 _ rfl; exact bs BK589.out⟩, ⟨by repeat (first | (with_reducible first | exact bw HB.out | refine bset ?_ | apply bA | apply bN | apply bD) | exact HB.out)⟩⟩
  rw [if_neg c31] at H
  have c31b0 : (t571 != t573) = false := by simpa using c31
  (try (have c31b1 : decide (t571 = t573) = true := by simpa using c31))
  (try (have c31b2 : (t571 == t573) = true := by simpa using c31))
  clear c31
  by_cases c32 : (!(t578.toList == t584.toList) || (!(t579.toList == t585.toList) || (!(t580 == t586)))) = true
  ·rw [if_pos c32] at H
   have c32b0 : (!(t578.toList == t584.toList) || (!(t579.toList == t585.toList) || (!(t580 == t586)))) = true := c32
   clear c32
   have H' := Aside0.mk H
   clear H
   have hnb33 := NB583_569.out
   have hnc33 := NB569_583.out
   have hnb34 := NB583_589.out
   have hnc34 := NB589_583.out
   obtain ⟨hcz35_0, hcz35_1, hcz35_2, hfz35_0, hfz35_1, hfz35_2⟩ := bz3 BK583.out
   have hnb36 := NB589_569.out
   have hnc36 := NB569_589.out
   obtain ⟨hcz37_0, hcz37_1, hcz37_2, hfz37_0, hfz37_1, hfz37_2⟩ := bz3 BK589.out
   go_wp2
   go_meet
   case rel => exact ⟨_, (true), (by first | rfl | (simp; done) | (simp [*]; done)), H', ⟨by first | omega | exact Nat.le_refl _⟩, ⟨by (with_reducible repeat (first | refine blk_drewN ?_ _ | refine blk_drew ?_ | refine blk_alloc ?_ _)); refine blk_far ?_ NB569_589.out _; (with_reducible repeat (first | refine blk_drewN ?_ _ | refine blk_drew ?_ | refine blk_alloc ?_ _)); refine blk_far ?_ NB569_589.out _; (with_reducible repeat (first | refine blk_drewN ?_ _ | refine blk_drew ?_ | refine blk_alloc ?_ _)); refine blk_far ?_ NB569_589.out _; exact bs BK569.out⟩, ⟨by (with_reducible repeat (first | refine blk_drewN ?_ _ | refine blk_drew ?_ | refine blk_alloc ?_ _)); refine blk_far ?_ NB583_589.out _; (with_reducible repeat (first | refine blk_drewN ?_ _ | refine blk_drew ?_ | refine blk_alloc ?_ _)); refine blk_far ?_ NB583_589.out _; (with_reducible repeat (first | refine blk_drewN ?_ _ | refine blk_drew ?_ | refine blk_alloc ?_ _)); refine blk_far ?_ NB583_589.out _; exact bs BK583.out⟩, ⟨by (with_reducible repeat (first | refine blk_drewN ?_ _ | refine blk_drew ?_ | refine blk_alloc ?_ _)); refine blk_put (cs := #[.string t584, .string t585, .int .i64 0]) ?_ 2 _ rfl; (with_reducible repeat (first | refine blk_drewN ?_ _ | refine blk_drew ?_ | refine blk_alloc ?_ _)); refine blk_put (cs := #[.string t584, .string (⟨#[]⟩ : ByteArray), .int .i64 0]) ?_ 1 _ rfl; (with_reducible repeat (first | refine blk_drewN ?_ _ | refine blk_drew ?_ | refine blk_alloc ?_ _)); refine blk_put (cs := #[.string (⟨#[]⟩ : ByteArray), .string (⟨#[]⟩ : ByteArray), .int .i64 0]) ?_ 0 _ rfl; exact bs BK589.out⟩, ⟨by repeat (first | (with_reducible first | exact bw HB.out | refine bset ?_ | apply bA | apply bN | apply bD) | exact HB.out)⟩⟩
  rw [if_neg c32] at H
  have c32b0 : (!(t578.toList == t584.toList) || (!(t579.toList == t585.toList) || (!(t580 == t586)))) = false := by simpa using c32
  clear c32
  by_cases c38 : t581 = t587
  rotate_left
  ·rw [if_neg c38] at H
   have c38b0 : (t581 == t587) = false := beq_eq_false_iff_ne.mpr c38
   have c38b1 : (t581 != t587) = true := bne_iff_ne.mpr c38
   have H' := Aside0.mk H
   clear H
   have hnb44 := NB583_569.out
   have hnc44 := NB569_583.out
   have hnb45 := NB583_589.out
   have hnc45 := NB589_583.out
   obtain ⟨hcz46_0, hcz46_1, hcz46_2, hfz46_0, hfz46_1, hfz46_2⟩ := bz3 BK583.out
   have hnb47 := NB589_569.out
   have hnc47 := NB569_589.out
   obtain ⟨hcz48_0, hcz48_1, hcz48_2, hfz48_0, hfz48_1, hfz48_2⟩ := bz3 BK589.out
   go_wp2
   go_meet
   case rel => exact ⟨_, (true), (by first | rfl | (simp; done) | (simp [*]; done)), H', ⟨by first | omega | exact Nat.le_refl _⟩, ⟨by (with_reducible repeat (first | refine blk_drewN ?_ _ | refine blk_drew ?_ | refine blk_alloc ?_ _)); refine blk_far ?_ NB569_589.out _; (with_reducible repeat (first | refine blk_drewN ?_ _ | refine blk_drew ?_ | refine blk_alloc ?_ _)); refine blk_far ?_ NB569_589.out _; (with_reducible repeat (first | refine blk_drewN ?_ _ | refine blk_drew ?_ | refine blk_alloc ?_ _)); refine blk_far ?_ NB569_589.out _; exact bs BK569.out⟩, ⟨by (with_reducible repeat (first | refine blk_drewN ?_ _ | refine blk_drew ?_ | refine blk_alloc ?_ _)); refine blk_far ?_ NB583_589.out _; (with_reducible repeat (first | refine blk_drewN ?_ _ | refine blk_drew ?_ | refine blk_alloc ?_ _)); refine blk_far ?_ NB583_589.out _; (with_reducible repeat (first | refine blk_drewN ?_ _ | refine blk_drew ?_ | refine blk_alloc ?_ _)); refine blk_far ?_ NB583_589.out _; exact bs BK583.out⟩, ⟨by (with_reducible repeat (first | refine blk_drewN ?_ _ | refine blk_drew ?_ | refine blk_alloc ?_ _)); refine blk_put (cs := #[.string t584, .string t585, .int .i64 0]) ?_ 2 _ rfl; (with_reducible repeat (first | refine blk_drewN ?_ _ | refine blk_drew ?_ | refine blk_alloc ?_ _)); refine blk_put (cs := #[.string t584, .string (⟨#[]⟩ : ByteArray), .int .i64 0]) ?_ 1 _ rfl; (with_reducible repeat (first | refine blk_drewN ?_ _ | refine blk_drew ?_ | refine blk_alloc ?_ _)); refine blk_put (cs := #[.string (⟨#[]⟩ : ByteArray), .string (⟨#[]⟩ : ByteArray), .int .i64 0]) ?_ 0 _ rfl; exact bs BK589.out⟩, ⟨by repeat (first | (with_reducible first | exact bw HB.out | refine bset ?_ | apply bA | apply bN | apply bD) | exact HB.out)⟩⟩
  rw [if_pos c38] at H
  have c38b0 : (t581 == t587) = true := beq_iff_eq.mpr c38
  have c38b1 : (t581 != t587) = false := bne_eq_false_iff_eq.mpr c38
  clear c38
  have H' := Aside0.mk H
  clear H
  have hnb39 := NB583_569.out
  have hnc39 := NB569_583.out
  have hnb40 := NB583_589.out
  have hnc40 := NB589_583.out
  obtain ⟨hcz41_0, hcz41_1, hcz41_2, hfz41_0, hfz41_1, hfz41_2⟩ := bz3 BK583.out
  have hnb42 := NB589_569.out
  have hnc42 := NB569_589.out
  obtain ⟨hcz43_0, hcz43_1, hcz43_2, hfz43_0, hfz43_1, hfz43_2⟩ := bz3 BK589.out
  go_wp2
  go_meet
  case rel => exact ⟨_, ((t582 != t588)), (by first | rfl | (simp; done) | (simp [*]; done)), H', ⟨by first | omega | exact Nat.le_refl _⟩, ⟨by (with_reducible repeat (first | refine blk_drewN ?_ _ | refine blk_drew ?_ | refine blk_alloc ?_ _)); refine blk_far ?_ NB569_589.out _; (with_reducible repeat (first | refine blk_drewN ?_ _ | refine blk_drew ?_ | refine blk_alloc ?_ _)); refine blk_far ?_ NB569_589.out _; (with_reducible repeat (first | refine blk_drewN ?_ _ | refine blk_drew ?_ | refine blk_alloc ?_ _)); refine blk_far ?_ NB569_589.out _; exact bs BK569.out⟩, ⟨by (with_reducible repeat (first | refine blk_drewN ?_ _ | refine blk_drew ?_ | refine blk_alloc ?_ _)); refine blk_far ?_ NB583_589.out _; (with_reducible repeat (first | refine blk_drewN ?_ _ | refine blk_drew ?_ | refine blk_alloc ?_ _)); refine blk_far ?_ NB583_589.out _; (with_reducible repeat (first | refine blk_drewN ?_ _ | refine blk_drew ?_ | refine blk_alloc ?_ _)); refine blk_far ?_ NB583_589.out _; exact bs BK583.out⟩, ⟨by (with_reducible repeat (first | refine blk_drewN ?_ _ | refine blk_drew ?_ | refine blk_alloc ?_ _)); refine blk_put (cs := #[.string t584, .string t585, .int .i64 0]) ?_ 2 _ rfl; (with_reducible repeat (first | refine blk_drewN ?_ _ | refine blk_drew ?_ | refine blk_alloc ?_ _)); refine blk_put (cs := #[.string t584, .string (⟨#[]⟩ : ByteArray), .int .i64 0]) ?_ 1 _ rfl; (with_reducible repeat (first | refine blk_drewN ?_ _ | refine blk_drew ?_ | refine blk_alloc ?_ _)); refine blk_put (cs := #[.string (⟨#[]⟩ : ByteArray), .string (⟨#[]⟩ : ByteArray), .int .i64 0]) ?_ 0 _ rfl; exact bs BK589.out⟩, ⟨by repeat (first | (with_reducible first | exact bw HB.out | refine bset ?_ | apply bA | apply bN | apply bD) | exact HB.out)⟩⟩
 case rest =>
  clear HC11
  try clear c2
  try clear p2
  try clear c3
  try clear c4
  try clear c5
  try clear c8
  try clear c23
  try clear c24
  try clear c25
  try clear c26
  try clear c27
  try clear c28
  try clear c29
  try clear c30
  try clear c30b0
  try clear c30b1
  try clear c31
  try clear c31b0
  try clear c31b1
  try clear c31b2
  try clear c32
  try clear c32b0
  try clear c33
  try clear c34
  try clear c36
  try clear c38
  try clear c38b0
  try clear c38b1
  try clear c39
  try clear c40
  try clear c42
  try clear c44
  try clear c45
  try clear c47
  try clear hcz14_0
  try clear hcz14_1
  try clear hcz14_2
  try clear hcz16_0
  try clear hcz16_1
  try clear hcz16_2
  try clear hcz24_0
  try clear hcz24_1
  try clear hcz24_2
  try clear hcz29_0
  try clear hcz29_1
  try clear hcz29_2
  try clear hcz35_0
  try clear hcz35_1
  try clear hcz35_2
  try clear hcz37_0
  try clear hcz37_1
  try clear hcz37_2
  try clear hcz41_0
  try clear hcz41_1
  try clear hcz41_2
  try clear hcz43_0
  try clear hcz43_1
  try clear hcz43_2
  try clear hcz46_0
  try clear hcz46_1
  try clear hcz46_2
  try clear hcz48_0
  try clear hcz48_1
  try clear hcz48_2
  try clear hfz14_0
  try clear hfz14_1
  try clear hfz14_2
  try clear hfz16_0
  try clear hfz16_1
  try clear hfz16_2
  try clear hfz24_0
  try clear hfz24_1
  try clear hfz24_2
  try clear hfz29_0
  try clear hfz29_1
  try clear hfz29_2
  try clear hfz35_0
  try clear hfz35_1
  try clear hfz35_2
  try clear hfz37_0
  try clear hfz37_1
  try clear hfz37_2
  try clear hfz41_0
  try clear hfz41_1
  try clear hfz41_2
  try clear hfz43_0
  try clear hfz43_1
  try clear hfz43_2
  try clear hfz46_0
  try clear hfz46_1
  try clear hfz46_2
  try clear hfz48_0
  try clear hfz48_1
  try clear hfz48_2
  obtain ⟨kq, x83_10, rfl, HA, HJ10, BK569, BK583, BK589, HB⟩ := hcut
  cases kq with
  | zero => exact absurd HA.out (by simp [laws_FnCrashes.j0])
  | succ kj10 =>
   have H := HA.out
   clear HA
   simp only [laws_FnCrashes.j0] at H
   by_cases c49 : x83_10 = true
   ·subst c49
    have H1 : (some false) = some r := by rw [if_pos rfl] at H; exact H
    clear H
    have H := H1
    clear H1
    obtain rfl := Option.some.inj H
    go_wp2
    go_ret
    exact ⟨by first | rfl | (simp [errW_none, errW_some] <;> rfl) | (simp [*, errW_none, errW_some] <;> rfl), by repeat (first | (with_reducible first | exact bw HB.out | refine bset ?_ | apply bA | apply bN | apply bD) | exact HB.out)⟩
   replace c49 := Bool.eq_false_iff.mpr c49
   subst c49
   have H1 : (if t571 = true then ((impl_RecoverLog.f kj10 t570).bind fun bt590 => (if bt590.2.2.2.2 = true then ((impl_IsValidLog.f kj10 bt590.1 bt590.2.1 bt590.2.2.1).bind fun t596 => (if t596 = true then (if bt590.2.2.2.1 < (t564.size : Int) then (laws_FnCrashes.j1 kj10 t567 t568 true t564 t565 t566 bt590.1 bt590.2.1 bt590.2.2.1) else (laws_FnCrashes.j1 kj10 t567 t568 ((bt590.1.size : Int) != bt590.2.2.2.1) t564 t565 t566 bt590.1 bt590.2.1 bt590.2.2.1)) else (laws_FnCrashes.j1 kj10 t567 t568 true t564 t565 t566 bt590.1 bt590.2.1 bt590.2.2.1))) else (laws_FnCrashes.j1 kj10 t567 t568 true t564 t565 t566 bt590.1 bt590.2.1 bt590.2.2.1))) else (some true)) = some r := by rw [if_neg (show ¬ (false = true) by decide)] at H; exact H
   clear H
   have H := H1
   clear H1
   by_cases c50 : t571 = true
   rotate_left
   ·replace c50 := Bool.eq_false_iff.mpr c50
    subst c50
    have H1 : (some true) = some r := by rw [if_neg (show ¬ (false = true) by decide)] at H; exact H
    clear H
    have H := H1
    clear H1
    obtain rfl := Option.some.inj H
    go_wp2
    go_ret
    exact ⟨by first | rfl | (simp [errW_none, errW_some] <;> rfl) | (simp [*, errW_none, errW_some] <;> rfl), by repeat (first | (with_reducible first | exact bw HB.out | refine bset ?_ | apply bA | apply bN | apply bD) | exact HB.out)⟩
   subst c50
   have H1 : ((impl_RecoverLog.f kj10 t570).bind fun bt590 => (if bt590.2.2.2.2 = true then ((impl_IsValidLog.f kj10 bt590.1 bt590.2.1 bt590.2.2.1).bind fun t596 => (if t596 = true then (if bt590.2.2.2.1 < (t564.size : Int) then (laws_FnCrashes.j1 kj10 t567 t568 true t564 t565 t566 bt590.1 bt590.2.1 bt590.2.2.1) else (laws_FnCrashes.j1 kj10 t567 t568 ((bt590.1.size : Int) != bt590.2.2.2.1) t564 t565 t566 bt590.1 bt590.2.1 bt590.2.2.1)) else (laws_FnCrashes.j1 kj10 t567 t568 true t564 t565 t566 bt590.1 bt590.2.1 bt590.2.2.1))) else (laws_FnCrashes.j1 kj10 t567 t568 true t564 t565 t566 bt590.1 bt590.2.1 bt590.2.2.1))) = some r := by rw [if_pos rfl] at H; exact H
   clear H
   have H := H1
   clear H1
   replace H := Option.bind_eq_some_iff.mp H
   obtain ⟨⟨t590, t591, t592, t593, t594⟩, A510, H⟩ := H
   replace H : (if t594 = true then ((impl_IsValidLog.f kj10 t590 t591 t592).bind fun t596 => (if t596 = true then (if t593 < (t564.size : Int) then (laws_FnCrashes.j1 kj10 t567 t568 true t564 t565 t566 t590 t591 t592) else (laws_FnCrashes.j1 kj10 t567 t568 ((t590.size : Int) != t593) t564 t565 t566 t590 t591 t592)) else (laws_FnCrashes.j1 kj10 t567 t568 true t564 t565 t566 t590 t591 t592))) else (laws_FnCrashes.j1 kj10 t567 t568 true t564 t565 t566 t590 t591 t592)) = some r := H
   have A51 := Aside0.mk A510
   clear A510
   have HC52 := Aside0.mk H
   clear H
   go_upto_region 14 with (first | ((with_reducible refine gate_callee (f := 28) rfl ?_); refine goesL_ (some 88) rfl rfl Try.func28 (by kernel_rfl) rfl #[.string t570] rfl (by (try simp only [mA_]); first | done | rfl | (simp only [List.length_drop, List.length_take]; rfl)) ?_; (with_reducible refine (impl_RecoverLog.calls kj10 t570 t590 t591 t592 t593 t594 _ A51.out).mono ?_); rintro e w53 ⟨rfl, hb⟩; refine ⟨_, rfl, ?_⟩; have n0_ := Aside0.mk (blk_below (bs BK569.out) hb); have n1_ := Aside0.mk (blk_below (bs BK583.out) hb); have n2_ := Aside0.mk (blk_below (bs BK589.out) hb); have n3_ := Aside0.mk (below_step (by repeat (first | (with_reducible first | exact bw HB.out | refine bset ?_ | apply bA | apply bN | apply bD) | exact HB.out)) hb); replace BK569 := n0_; replace BK583 := n1_; replace BK589 := n2_; replace HB := n3_; clear n0_ n1_ n2_ n3_; (try clear hb); (try clear hb2); (try clear hk); (try clear hi)) | ((with_reducible refine gate_dst (N := 17) rfl ?_); (try (refine gate_guard (by rfl) ?_; dsimp only)); refine box_event ?hg (N := 17) ?hd (cs := #[.string (⟨#[]⟩ : ByteArray), .string (⟨#[]⟩ : ByteArray), .int .i64 0]) (t := 33) ?hr ?_; (case hd => rfl); (case hg => rfl); (case hr => first | (go_simp; done) | (go_simp; rfl)); intro gb595 hg w54 hbox hb; have n0_ := Aside0.mk (blk_below (bs BK569.out) hb); have n1_ := Aside0.mk (blk_below (bs BK583.out) hb); have n2_ := Aside0.mk (blk_below (bs BK589.out) hb); have n3_ := Aside0.mk (below_step (by repeat (first | (with_reducible first | exact bw HB.out | refine bset ?_ | apply bA | apply bN | apply bD) | exact HB.out)) hb); have n4_ := Aside0.mk (hbox); have n5_ := Aside0.mk ((by rw [hg]; exact (below_size (by repeat (first | (with_reducible first | exact bw HB.out | refine bset ?_ | apply bA | apply bN | apply bD) | exact HB.out))) : w.heap.size ≤ gb595)); have n6_ := Aside0.mk ((by rw [hg]; exact (below_size (by repeat (first | (with_reducible first | exact bw HB.out | refine bset ?_ | apply bA | apply bN | apply bD) | exact HB.out))) : w.heap.size ≤ gb595)); have n7_ := ne_ hg BK569.out; have n8_ := en_ hg BK569.out; have n9_ := ne_ hg BK583.out; have n10_ := en_ hg BK583.out; have n11_ := ne_ hg BK589.out; have n12_ := en_ hg BK589.out; replace BK569 := n0_; replace BK583 := n1_; replace BK589 := n2_; replace HB := n3_; have BK595 := n4_; have GW595 := n5_; have GE595 := n6_; have NB569_595 := n7_; have NB595_569 := n8_; have NB583_595 := n9_; have NB595_583 := n10_; have NB589_595 := n11_; have NB595_589 := n12_; clear n0_ n1_ n2_ n3_ n4_ n5_ n6_ n7_ n8_ n9_ n10_ n11_ n12_; clear hb hbox hg; have hnb55 := NB595_569.out; have hnc55 := NB569_595.out; have hnb56 := NB595_583.out; have hnc56 := NB583_595.out; have hnb57 := NB595_589.out; have hnc57 := NB589_595.out; obtain ⟨hcz58_0, hcz58_1, hcz58_2, hfz58_0, hfz58_1, hfz58_2⟩ := bz3 BK595.out))
   (try simp only [Act.put, List.setIfInBounds_toArray, List.set_cons_zero, List.set_cons_succ])
   go_cut [112] (fun v112 wc => ∃ (kq : Nat) (x112_51 : Bool), v112 = .bool x112_51 ∧ Aside0 (laws_FnCrashes.j1 kq t567 t568 x112_51 t564 t565 t566 t590 t591 t592 = some r) ∧ Aside0 (kq ≤ kj10) ∧ Aside0 (wc.heap[gb569]? = some (.cells #[.string t564, .string t565, .int .i64 t566] 33 (0, 0))) ∧ Aside0 (wc.heap[gb583]? = some (.cells #[.string t578, .string t579, .int .i64 t580] 33 (0, 0))) ∧ Aside0 (wc.heap[gb589]? = some (.cells #[.string t584, .string t585, .int .i64 t586] 33 (0, 0))) ∧ Aside0 (wc.heap[gb595]? = some (.cells #[.string t590, .string t591, .int .i64 t592] 33 (0, 0))) ∧ Aside0 (Below w.heap.size w wc))
   case first =>
    have H := HC52.out
    clear HC52
    by_cases c59 : t594 = true
    rotate_left
    ·replace c59 := Bool.eq_false_iff.mpr c59
     subst c59
     have H1 : (laws_FnCrashes.j1 kj10 t567 t568 true t564 t565 t566 t590 t591 t592) = some r := by rw [if_neg (show ¬ (false = true) by decide)] at H; exact H
     clear H
     have H := H1
     clear H1
     have H' := Aside0.mk H
     clear H
     go_wp2
     go_meet
     case rel => exact ⟨_, (true), (by first | rfl | (simp; done) | (simp [*]; done)), H', ⟨by have := HJ10.out; first | omega | exact Nat.le_refl _⟩, ⟨by (with_reducible repeat (first | refine blk_drewN ?_ _ | refine blk_drew ?_ | refine blk_alloc ?_ _)); refine blk_far ?_ NB569_595.out _; (with_reducible repeat (first | refine blk_drewN ?_ _ | refine blk_drew ?_ | refine blk_alloc ?_ _)); refine blk_far ?_ NB569_595.out _; (with_reducible repeat (first | refine blk_drewN ?_ _ | refine blk_drew ?_ | refine blk_alloc ?_ _)); refine blk_far ?_ NB569_595.out _; exact bs BK569.out⟩, ⟨by (with_reducible repeat (first | refine blk_drewN ?_ _ | refine blk_drew ?_ | refine blk_alloc ?_ _)); refine blk_far ?_ NB583_595.out _; (with_reducible repeat (first | refine blk_drewN ?_ _ | refine blk_drew ?_ | refine blk_alloc ?_ _)); refine blk_far ?_ NB583_595.out _; (with_reducible repeat (first | refine blk_drewN ?_ _ | refine blk_drew ?_ | refine blk_alloc ?_ _)); refine blk_far ?_ NB583_595.out _; exact bs BK583.out⟩, ⟨by (with_reducible repeat (first | refine blk_drewN ?_ _ | refine blk_drew ?_ | refine blk_alloc ?_ _)); refine blk_far ?_ NB589_595.out _; (with_reducible repeat (first | refine blk_drewN ?_ _ | refine blk_drew ?_ | refine blk_alloc ?_ _)); refine blk_far ?_ NB589_595.out _; (with_reducible repeat (first | refine blk_drewN ?_ _ | refine blk_drew ?_ | refine blk_alloc ?_ _)); refine blk_far ?_ NB589_595.out _; exact bs BK589.out⟩, ⟨by (with_reducible repeat (first | refine blk_drewN ?_ _ | refine blk_drew ?_ | refine blk_alloc ?_ _)); refine blk_put (cs := #[.string t590, .string t591, .int .i64 0]) ?_ 2 _ rfl; (with_reducible repeat (first | refine blk_drewN ?_ _ | refine blk_drew ?_ | refine blk_alloc ?_ _)); refine blk_put (cs := #[.string t590, .string (⟨#[]⟩ : ByteArray), .int .i64 0]) ?_ 1 _ rfl; (with_reducible repeat (first | refine blk_drewN ?_ _ | refine blk_drew ?_ | refine blk_alloc ?_ _)); refine blk_put (cs := #[.string (⟨#[]⟩ : ByteArray), .string (⟨#[]⟩ : ByteArray), .int .i64 0]) ?_ 0 _ rfl; exact bs BK595.out⟩, ⟨by repeat (first | (with_reducible first | exact bw HB.out | refine bset ?_ | apply bA | apply bN | apply bD) | exact HB.out)⟩⟩
    subst c59
    have H1 : ((impl_IsValidLog.f kj10 t590 t591 t592).bind fun t596 => (if t596 = true then (if t593 < (t564.size : Int) then (laws_FnCrashes.j1 kj10 t567 t568 true t564 t565 t566 t590 t591 t592) else (laws_FnCrashes.j1 kj10 t567 t568 ((t590.size : Int) != t593) t564 t565 t566 t590 t591 t592)) else (laws_FnCrashes.j1 kj10 t567 t568 true t564 t565 t566 t590 t591 t592))) = some r := by rw [if_pos rfl] at H; exact H
    clear H
    have H := H1
    clear H1
    replace H := Option.bind_eq_some_iff.mp H
    obtain ⟨t596, A600, H⟩ := H
    replace H : (if t596 = true then (if t593 < (t564.size : Int) then (laws_FnCrashes.j1 kj10 t567 t568 true t564 t565 t566 t590 t591 t592) else (laws_FnCrashes.j1 kj10 t567 t568 ((t590.size : Int) != t593) t564 t565 t566 t590 t591 t592)) else (laws_FnCrashes.j1 kj10 t567 t568 true t564 t565 t566 t590 t591 t592)) = some r := H
    have A60 := Aside0.mk A600
    clear A600
    by_cases c61 : t596 = true
    rotate_left
    ·replace c61 := Bool.eq_false_iff.mpr c61
     subst c61
     have H1 : (laws_FnCrashes.j1 kj10 t567 t568 true t564 t565 t566 t590 t591 t592) = some r := by rw [if_neg (show ¬ (false = true) by decide)] at H; exact H
     clear H
     have H := H1
     clear H1
     have H' := Aside0.mk H
     clear H
     have hnb80 := NB595_569.out
     have hnc80 := NB569_595.out
     have hnb81 := NB595_583.out
     have hnc81 := NB583_595.out
     have hnb82 := NB595_589.out
     have hnc82 := NB589_595.out
     obtain ⟨hcz83_0, hcz83_1, hcz83_2, hfz83_0, hfz83_1, hfz83_2⟩ := bz3 BK595.out
     go_wp2_with (first | (go_at_call 17; (with_reducible refine (impl_IsValidLog.calls kj10 t590 t591 t592 false _ A60.out).mono ?_); rintro e w84 ⟨rfl, hb⟩; have n0_ := Aside0.mk (blk_below (g := gb569) (o := .cells #[.string t564, .string t565, .int .i64 t566] 33 (0, 0)) (by (with_reducible repeat (first | refine blk_drewN ?_ _ | refine blk_drew ?_ | refine blk_alloc ?_ _)); refine blk_far ?_ NB569_595.out _; (with_reducible repeat (first | refine blk_drewN ?_ _ | refine blk_drew ?_ | refine blk_alloc ?_ _)); refine blk_far ?_ NB569_595.out _; (with_reducible repeat (first | refine blk_drewN ?_ _ | refine blk_drew ?_ | refine blk_alloc ?_ _)); refine blk_far ?_ NB569_595.out _; exact bs BK569.out) hb); have n1_ := Aside0.mk (blk_below (g := gb583) (o := .cells #[.string t578, .string t579, .int .i64 t580] 33 (0, 0)) (by (with_reducible repeat (first | refine blk_drewN ?_ _ | refine blk_drew ?_ | refine blk_alloc ?_ _)); refine blk_far ?_ NB583_595.out _; (with_reducible repeat (first | refine blk_drewN ?_ _ | refine blk_drew ?_ | refine blk_alloc ?_ _)); refine blk_far ?_ NB583_595.out _; (with_reducible repeat (first | refine blk_drewN ?_ _ | refine blk_drew ?_ | refine blk_alloc ?_ _)); refine blk_far ?_ NB583_595.out _; exact bs BK583.out) hb); have n2_ := Aside0.mk (blk_below (g := gb589) (o := .cells #[.string t584, .string t585, .int .i64 t586] 33 (0, 0)) (by (with_reducible repeat (first | refine blk_drewN ?_ _ | refine blk_drew ?_ | refine blk_alloc ?_ _)); refine blk_far ?_ NB589_595.out _; (with_reducible repeat (first | refine blk_drewN ?_ _ | refine blk_drew ?_ | refine blk_alloc ?_ _)); refine blk_far ?_ NB589_595.out _; (with_reducible repeat (first | refine blk_drewN ?_ _ | refine blk_drew ?_ | refine blk_alloc ?_ _)); refine blk_far ?_ NB589_595.out _; exact bs BK589.out) hb); have n3_ := Aside0.mk (blk_below (g := gb595) (o := .cells #[.string t590, .string t591, .int .i64 t592] 33 (0, 0)) (by (with_reducible repeat (first | refine blk_drewN ?_ _ | refine blk_drew ?_ | refine blk_alloc ?_ _)); refine blk_put (cs := #[.string t590, .string t591, .int .i64 0]) ?_ 2 _ rfl; (with_reducible repeat (first | refine blk_drewN ?_ _ | refine blk_drew ?_ | refine blk_alloc ?_ _)); refine blk_put (cs := #[.string t590, .string (⟨#[]⟩ : ByteArray), .int .i64 0]) ?_ 1 _ rfl; (with_reducible repeat (first | refine blk_drewN ?_ _ | refine blk_drew ?_ | refine blk_alloc ?_ _)); refine blk_put (cs := #[.string (⟨#[]⟩ : ByteArray), .string (⟨#[]⟩ : ByteArray), .int .i64 0]) ?_ 0 _ rfl; exact bs BK595.out) hb); have n4_ := Aside0.mk (below_step (by repeat (first | (with_reducible first | exact bw HB.out | refine bset ?_ | apply bA | apply bN | apply bD) | exact HB.out)) hb); replace BK569 := n0_; replace BK583 := n1_; replace BK589 := n2_; replace BK595 := n3_; replace HB := n4_; clear n0_ n1_ n2_ n3_ n4_; (try clear hb); (try clear hb2); (try clear hk); (try clear hi)))
     go_meet
     case rel => exact ⟨_, (true), (by first | rfl | (simp; done) | (simp [*]; done)), H', ⟨by have := HJ10.out; first | omega | exact Nat.le_refl _⟩, ⟨bs BK569.out⟩, ⟨bs BK583.out⟩, ⟨bs BK589.out⟩, ⟨bs BK595.out⟩, ⟨by repeat (first | (with_reducible first | exact bw HB.out | refine bset ?_ | apply bA | apply bN | apply bD) | exact HB.out)⟩⟩
    subst c61
    have H1 : (if t593 < (t564.size : Int) then (laws_FnCrashes.j1 kj10 t567 t568 true t564 t565 t566 t590 t591 t592) else (laws_FnCrashes.j1 kj10 t567 t568 ((t590.size : Int) != t593) t564 t565 t566 t590 t591 t592)) = some r := by rw [if_pos rfl] at H; exact H
    clear H
    have H := H1
    clear H1
    by_cases c62 : t593 < (t564.size : Int)
    ·rw [if_pos c62] at H
     have c62b0 : decide (t593 < (t564.size : Int)) = true := decide_eq_true c62
     clear c62
     (first | rw [c62b0] | (simp only [i64_w, i32_w]; rw [c62b0]) | skip)
     have H' := Aside0.mk H
     clear H
     have hnb63 := NB595_569.out
     have hnc63 := NB569_595.out
     have hnb64 := NB595_583.out
     have hnc64 := NB583_595.out
     have hnb65 := NB595_589.out
     have hnc65 := NB589_595.out
     obtain ⟨hcz66_0, hcz66_1, hcz66_2, hfz66_0, hfz66_1, hfz66_2⟩ := bz3 BK595.out
     go_wp2_with (first | (go_at_call 17; (with_reducible refine (impl_IsValidLog.calls kj10 t590 t591 t592 true _ A60.out).mono ?_); rintro e w67 ⟨rfl, hb⟩; have n0_ := Aside0.mk (blk_below (g := gb569) (o := .cells #[.string t564, .string t565, .int .i64 t566] 33 (0, 0)) (by (with_reducible repeat (first | refine blk_drewN ?_ _ | refine blk_drew ?_ | refine blk_alloc ?_ _)); refine blk_far ?_ NB569_595.out _; (with_reducible repeat (first | refine blk_drewN ?_ _ | refine blk_drew ?_ | refine blk_alloc ?_ _)); refine blk_far ?_ NB569_595.out _; (with_reducible repeat (first | refine blk_drewN ?_ _ | refine blk_drew ?_ | refine blk_alloc ?_ _)); refine blk_far ?_ NB569_595.out _; exact bs BK569.out) hb); have n1_ := Aside0.mk (blk_below (g := gb583) (o := .cells #[.string t578, .string t579, .int .i64 t580] 33 (0, 0)) (by (with_reducible repeat (first | refine blk_drewN ?_ _ | refine blk_drew ?_ | refine blk_alloc ?_ _)); refine blk_far ?_ NB583_595.out _; (with_reducible repeat (first | refine blk_drewN ?_ _ | refine blk_drew ?_ | refine blk_alloc ?_ _)); refine blk_far ?_ NB583_595.out _; (with_reducible repeat (first | refine blk_drewN ?_ _ | refine blk_drew ?_ | refine blk_alloc ?_ _)); refine blk_far ?_ NB583_595.out _; exact bs BK583.out) hb); have n2_ := Aside0.mk (blk_below (g := gb589) (o := .cells #[.string t584, .string t585, .int .i64 t586] 33 (0, 0)) (by (with_reducible repeat (first | refine blk_drewN ?_ _ | refine blk_drew ?_ | refine blk_alloc ?_ _)); refine blk_far ?_ NB589_595.out _; (with_reducible repeat (first | refine blk_drewN ?_ _ | refine blk_drew ?_ | refine blk_alloc ?_ _)); refine blk_far ?_ NB589_595.out _; (with_reducible repeat (first | refine blk_drewN ?_ _ | refine blk_drew ?_ | refine blk_alloc ?_ _)); refine blk_far ?_ NB589_595.out _; exact bs BK589.out) hb); have n3_ := Aside0.mk (blk_below (g := gb595) (o := .cells #[.string t590, .string t591, .int .i64 t592] 33 (0, 0)) (by (with_reducible repeat (first | refine blk_drewN ?_ _ | refine blk_drew ?_ | refine blk_alloc ?_ _)); refine blk_put (cs := #[.string t590, .string t591, .int .i64 0]) ?_ 2 _ rfl; (with_reducible repeat (first | refine blk_drewN ?_ _ | refine blk_drew ?_ | refine blk_alloc ?_ _)); refine blk_put (cs := #[.string t590, .string (⟨#[]⟩ : ByteArray), .int .i64 0]) ?_ 1 _ rfl; (with_reducible repeat (first | refine blk_drewN ?_ _ | refine blk_drew ?_ | refine blk_alloc ?_ _)); refine blk_put (cs := #[.string (⟨#[]⟩ : ByteArray), .string (⟨#[]⟩ : ByteArray), .int .i64 0]) ?_ 0 _ rfl; exact bs BK595.out) hb); have n4_ := Aside0.mk (below_step (by repeat (first | (with_reducible first | exact bw HB.out | refine bset ?_ | apply bA | apply bN | apply bD) | exact HB.out)) hb); replace BK569 := n0_; replace BK583 := n1_; replace BK589 := n2_; replace BK595 := n3_; replace HB := n4_; clear n0_ n1_ n2_ n3_ n4_; (try clear hb); (try clear hb2); (try clear hk); (try clear hi); have hnb68 := NB569_583.out; have hnc68 := NB583_569.out; have hnb69 := NB569_589.out; have hnc69 := NB589_569.out; obtain ⟨hcz70_0, hcz70_1, hcz70_2, hfz70_0, hfz70_1, hfz70_2⟩ := bz3 BK569.out))
     go_meet
     case rel => exact ⟨_, (true), (by first | rfl | (simp; done) | (simp [*]; done)), H', ⟨by have := HJ10.out; first | omega | exact Nat.le_refl _⟩, ⟨bs BK569.out⟩, ⟨bs BK583.out⟩, ⟨bs BK589.out⟩, ⟨bs BK595.out⟩, ⟨by repeat (first | (with_reducible first | exact bw HB.out | refine bset ?_ | apply bA | apply bN | apply bD) | exact HB.out)⟩⟩
    rw [if_neg c62] at H
    have c62b0 : decide (t593 < (t564.size : Int)) = false := decide_eq_false c62
    clear c62
    (first | rw [c62b0] | (simp only [i64_w, i32_w]; rw [c62b0]) | skip)
    have H' := Aside0.mk H
    clear H
    have hnb71 := NB595_569.out
    have hnc71 := NB569_595.out
    have hnb72 := NB595_583.out
    have hnc72 := NB583_595.out
    have hnb73 := NB595_589.out
    have hnc73 := NB589_595.out
    obtain ⟨hcz74_0, hcz74_1, hcz74_2, hfz74_0, hfz74_1, hfz74_2⟩ := bz3 BK595.out
    go_wp2_with (first | (go_at_call 17; (with_reducible refine (impl_IsValidLog.calls kj10 t590 t591 t592 true _ A60.out).mono ?_); rintro e w75 ⟨rfl, hb⟩; have n0_ := Aside0.mk (blk_below (g := gb569) (o := .cells #[.string t564, .string t565, .int .i64 t566] 33 (0, 0)) (by (with_reducible repeat (first | refine blk_drewN ?_ _ | refine blk_drew ?_ | refine blk_alloc ?_ _)); refine blk_far ?_ NB569_595.out _; (with_reducible repeat (first | refine blk_drewN ?_ _ | refine blk_drew ?_ | refine blk_alloc ?_ _)); refine blk_far ?_ NB569_595.out _; (with_reducible repeat (first | refine blk_drewN ?_ _ | refine blk_drew ?_ | refine blk_alloc ?_ _)); refine blk_far ?_ NB569_595.out _; exact bs BK569.out) hb); have n1_ := Aside0.mk (blk_below (g := gb583) (o := .cells #[.string t578, .string t579, .int .i64 t580] 33 (0, 0)) (by (with_reducible repeat (first | refine blk_drewN ?_ _ | refine blk_drew ?_ | refine blk_alloc ?_ _)); refine blk_far ?_ NB583_595.out _; (with_reducible repeat (first | refine blk_drewN ?_ _ | refine blk_drew ?_ | refine blk_alloc ?_ _)); refine blk_far ?_ NB583_595.out _; (with_reducible repeat (first | refine blk_drewN ?_ _ | refine blk_drew ?_ | refine blk_alloc ?_ _)); refine blk_far ?_ NB583_595.out _; exact bs BK583.out) hb); have n2_ := Aside0.mk (blk_below (g := gb589) (o := .cells #[.string t584, .string t585, .int .i64 t586] 33 (0, 0)) (by (with_reducible repeat (first | refine blk_drewN ?_ _ | refine blk_drew ?_ | refine blk_alloc ?_ _)); refine blk_far ?_ NB589_595.out _; (with_reducible repeat (first | refine blk_drewN ?_ _ | refine blk_drew ?_ | refine blk_alloc ?_ _)); refine blk_far ?_ NB589_595.out _; (with_reducible repeat (first | refine blk_drewN ?_ _ | refine blk_drew ?_ | refine blk_alloc ?_ _)); refine blk_far ?_ NB589_595.out _; exact bs BK589.out) hb); have n3_ := Aside0.mk (blk_below (g := gb595) (o := .cells #[.string t590, .string t591, .int .i64 t592] 33 (0, 0)) (by (with_reducible repeat (first | refine blk_drewN ?_ _ | refine blk_drew ?_ | refine blk_alloc ?_ _)); refine blk_put (cs := #[.string t590, .string t591, .int .i64 0]) ?_ 2 _ rfl; (with_reducible repeat (first | refine blk_drewN ?_ _ | refine blk_drew ?_ | refine blk_alloc ?_ _)); refine blk_put (cs := #[.string t590, .string (⟨#[]⟩ : ByteArray), .int .i64 0]) ?_ 1 _ rfl; (with_reducible repeat (first | refine blk_drewN ?_ _ | refine blk_drew ?_ | refine blk_alloc ?_ _)); refine blk_put (cs := #[.string (⟨#[]⟩ : ByteArray), .string (⟨#[]⟩ : ByteArray), .int .i64 0]) ?_ 0 _ rfl; exact bs BK595.out) hb); have n4_ := Aside0.mk (below_step (by repeat (first | (with_reducible first | exact bw HB.out | refine bset ?_ | apply bA | apply bN | apply bD) | exact HB.out)) hb); replace BK569 := n0_; replace BK583 := n1_; replace BK589 := n2_; replace BK595 := n3_; replace HB := n4_; clear n0_ n1_ n2_ n3_ n4_; (try clear hb); (try clear hb2); (try clear hk); (try clear hi); have hnb76 := NB569_583.out; have hnc76 := NB583_569.out; have hnb77 := NB569_589.out; have hnc77 := NB589_569.out; obtain ⟨hcz78_0, hcz78_1, hcz78_2, hfz78_0, hfz78_1, hfz78_2⟩ := bz3 BK569.out; obtain ⟨hcz79_0, hcz79_1, hcz79_2, hfz79_0, hfz79_1, hfz79_2⟩ := bz3 BK595.out))
    go_meet
    case rel => exact ⟨_, (((t590.size : Int) != t593)), (by first | rfl | (simp; done) | (simp [*]; done)), H', ⟨by have := HJ10.out; first | omega | exact Nat.le_refl _⟩, ⟨bs BK569.out⟩, ⟨bs BK583.out⟩, ⟨bs BK589.out⟩, ⟨bs BK595.out⟩, ⟨by repeat (first | (with_reducible first | exact bw HB.out | refine bset ?_ | apply bA | apply bN | apply bD) | exact HB.out)⟩⟩
   case rest =>
    clear HC52
    try clear c2
    try clear p2
    try clear c3
    try clear c4
    try clear c5
    try clear c6
    try clear c7
    try clear c8
    try clear c23
    try clear c24
    try clear c25
    try clear c26
    try clear c27
    try clear c28
    try clear c29
    try clear c30
    try clear c30b0
    try clear c30b1
    try clear c31
    try clear c31b0
    try clear c31b1
    try clear c31b2
    try clear c32
    try clear c32b0
    try clear c33
    try clear c34
    try clear c36
    try clear c38
    try clear c38b0
    try clear c38b1
    try clear c39
    try clear c40
    try clear c42
    try clear c44
    try clear c45
    try clear c47
    try clear c49
    try clear c50
    try clear c55
    try clear c56
    try clear c57
    try clear c59
    try clear c61
    try clear c62
    try clear c62b0
    try clear c63
    try clear c64
    try clear c65
    try clear c68
    try clear c69
    try clear c71
    try clear c72
    try clear c73
    try clear c76
    try clear c77
    try clear c80
    try clear c81
    try clear c82
    try clear hcz14_0
    try clear hcz14_1
    try clear hcz14_2
    try clear hcz16_0
    try clear hcz16_1
    try clear hcz16_2
    try clear hcz24_0
    try clear hcz24_1
    try clear hcz24_2
    try clear hcz29_0
    try clear hcz29_1
    try clear hcz29_2
    try clear hcz35_0
    try clear hcz35_1
    try clear hcz35_2
    try clear hcz37_0
    try clear hcz37_1
    try clear hcz37_2
    try clear hcz41_0
    try clear hcz41_1
    try clear hcz41_2
    try clear hcz43_0
    try clear hcz43_1
    try clear hcz43_2
    try clear hcz46_0
    try clear hcz46_1
    try clear hcz46_2
    try clear hcz48_0
    try clear hcz48_1
    try clear hcz48_2
    try clear hcz58_0
    try clear hcz58_1
    try clear hcz58_2
    try clear hcz66_0
    try clear hcz66_1
    try clear hcz66_2
    try clear hcz70_0
    try clear hcz70_1
    try clear hcz70_2
    try clear hcz74_0
    try clear hcz74_1
    try clear hcz74_2
    try clear hcz78_0
    try clear hcz78_1
    try clear hcz78_2
    try clear hcz79_0
    try clear hcz79_1
    try clear hcz79_2
    try clear hcz83_0
    try clear hcz83_1
    try clear hcz83_2
    try clear hfz14_0
    try clear hfz14_1
    try clear hfz14_2
    try clear hfz16_0
    try clear hfz16_1
    try clear hfz16_2
    try clear hfz24_0
    try clear hfz24_1
    try clear hfz24_2
    try clear hfz29_0
    try clear hfz29_1
    try clear hfz29_2
    try clear hfz35_0
    try clear hfz35_1
    try clear hfz35_2
    try clear hfz37_0
    try clear hfz37_1
    try clear hfz37_2
    try clear hfz41_0
    try clear hfz41_1
    try clear hfz41_2
    try clear hfz43_0
    try clear hfz43_1
    try clear hfz43_2
    try clear hfz46_0
    try clear hfz46_1
    try clear hfz46_2
    try clear hfz48_0
    try clear hfz48_1
    try clear hfz48_2
    try clear hfz58_0
    try clear hfz58_1
    try clear hfz58_2
    try clear hfz66_0
    try clear hfz66_1
    try clear hfz66_2
    try clear hfz70_0
    try clear hfz70_1
    try clear hfz70_2
    try clear hfz74_0
    try clear hfz74_1
    try clear hfz74_2
    try clear hfz78_0
    try clear hfz78_1
    try clear hfz78_2
    try clear hfz79_0
    try clear hfz79_1
    try clear hfz79_2
    try clear hfz83_0
    try clear hfz83_1
    try clear hfz83_2
    try clear p2
    obtain ⟨kq, x112_51, rfl, HA, HJ51, BK569, BK583, BK589, BK595, HB⟩ := hcut
    cases kq with
    | zero => exact absurd HA.out (by simp [laws_FnCrashes.j1])
    | succ kj51 =>
     have H := HA.out
     clear HA
     simp only [laws_FnCrashes.j1] at H
     by_cases c85 : x112_51 = true
     ·subst c85
      have H1 : (some false) = some r := by rw [if_pos rfl] at H; exact H
      clear H
      have H := H1
      clear H1
      obtain rfl := Option.some.inj H
      go_wp2
      go_ret
      exact ⟨by first | rfl | (simp [errW_none, errW_some] <;> rfl) | (simp [*, errW_none, errW_some] <;> rfl), by repeat (first | (with_reducible first | exact bw HB.out | refine bset ?_ | apply bA | apply bN | apply bD) | exact HB.out)⟩
     replace c85 := Bool.eq_false_iff.mpr c85
     subst c85
     have H1 : ((impl_LogRecords.f kj51 t564 t565 t566).bind fun bt597 => ((impl_LogRecords.f kj51 t590 t591 t592).bind fun bt601 => (if (bt601.1.length : Int) ≤ (bt597.1.length : Int) then (if 0 ≤ (bt601.1.length : Int) then ((laws_vRecords.f kj51 bt601.1 (bt597.1.take ((bt601.1.length : Int) : Int).toNat)).bind fun t609 => (if t609 = true then (if t568 = true then (some true) else (if t567 < (t565.size : Int) then (some true) else (some ((bt601.1.length : Int) == (bt597.1.length : Int))))) else (some false))) else (none)) else (some false)))) = some r := by rw [if_neg (show ¬ (false = true) by decide)] at H; exact H
     clear H
     have H := H1
     clear H1
     replace H := Option.bind_eq_some_iff.mp H
     obtain ⟨⟨t597, t600⟩, A860, H⟩ := H
     replace H : ((impl_LogRecords.f kj51 t590 t591 t592).bind fun bt601 => (if (bt601.1.length : Int) ≤ (t597.length : Int) then (if 0 ≤ (bt601.1.length : Int) then ((laws_vRecords.f kj51 bt601.1 (t597.take ((bt601.1.length : Int) : Int).toNat)).bind fun t609 => (if t609 = true then (if t568 = true then (some true) else (if t567 < (t565.size : Int) then (some true) else (some ((bt601.1.length : Int) == (t597.length : Int))))) else (some false))) else (none)) else (some false))) = some r := H
     have A86 := Aside0.mk A860
     clear A860
     replace H := Option.bind_eq_some_iff.mp H
     obtain ⟨⟨t601, t604⟩, A870, H⟩ := H
     replace H : (if (t601.length : Int) ≤ (t597.length : Int) then (if 0 ≤ (t601.length : Int) then ((laws_vRecords.f kj51 t601 (t597.take ((t601.length : Int) : Int).toNat)).bind fun t609 => (if t609 = true then (if t568 = true then (some true) else (if t567 < (t565.size : Int) then (some true) else (some ((t601.length : Int) == (t597.length : Int))))) else (some false))) else (none)) else (some false)) = some r := H
     have A87 := Aside0.mk A870
     clear A870
     by_cases c88 : (t601.length : Int) ≤ (t597.length : Int)
     rotate_left
     ·rw [if_neg c88] at H
      have c88b0 : decide ((t601.length : Int) ≤ (t597.length : Int)) = false := decide_eq_false c88
      have c88b1 : decide (t601.length ≤ t597.length) = false := decide_eq_false (fun h => c88 (Int.ofNat_le.mpr h))
      clear c88
      obtain rfl := Option.some.inj H
      have hnb145 := NB569_583.out
      have hnc145 := NB583_569.out
      have hnb146 := NB569_589.out
      have hnc146 := NB589_569.out
      have hnb147 := NB569_595.out
      have hnc147 := NB595_569.out
      obtain ⟨hcz148_0, hcz148_1, hcz148_2, hfz148_0, hfz148_1, hfz148_2⟩ := bz3 BK569.out
      go_wp2_with (first | ((with_reducible refine gate_callee (f := 21) rfl ?_); refine goesL_ (some 115) rfl rfl Try.func21 (by kernel_rfl) rfl #[.agg #[.string t564, .string t565, .int .i64 t566]] rfl (by (try simp only [mA_]); first | done | rfl | (simp only [List.length_drop, List.length_take]; rfl)) ?_; (with_reducible refine (impl_LogRecords.calls kj51 t564 t565 t566 t597 t600 _ A86.out).mono ?_); rintro e w149 ⟨v598, rfl, ho0, hb⟩; refine ⟨_, rfl, ?_⟩; have n0_ := Aside0.mk (Kd.R_lower ho0 (below_size (by repeat (first | (with_reducible first | exact bw HB.out | refine bset ?_ | apply bA | apply bN | apply bD) | exact HB.out)))); have n1_ := Aside0.mk (blk_below (bs BK569.out) hb); have n2_ := Aside0.mk (blk_below (bs BK583.out) hb); have n3_ := Aside0.mk (blk_below (bs BK589.out) hb); have n4_ := Aside0.mk (blk_below (bs BK595.out) hb); have n5_ := Aside0.mk (below_step (by repeat (first | (with_reducible first | exact bw HB.out | refine bset ?_ | apply bA | apply bN | apply bD) | exact HB.out)) hb); have HO599 := n0_; replace BK569 := n1_; replace BK583 := n2_; replace BK589 := n3_; replace BK595 := n4_; replace HB := n5_; clear n0_ n1_ n2_ n3_ n4_ n5_; (try clear hb); (try clear hb2); (try clear hk); (try clear hi); (try clear ho0); have hnb150 := NB595_583.out; have hnc150 := NB583_595.out; have hnb151 := NB595_589.out; have hnc151 := NB589_595.out; obtain ⟨hcz152_0, hcz152_1, hcz152_2, hfz152_0, hfz152_1, hfz152_2⟩ := bz3 BK595.out) | ((with_reducible refine gate_callee (f := 21) rfl ?_); refine goesL_ (some 120) rfl rfl Try.func21 (by kernel_rfl) rfl #[.agg #[.string t590, .string t591, .int .i64 t592]] rfl (by (try simp only [mA_]); first | done | rfl | (simp only [List.length_drop, List.length_take]; rfl)) ?_; (with_reducible refine (impl_LogRecords.calls kj51 t590 t591 t592 t601 t604 _ A87.out).mono ?_); rintro e w153 ⟨v602, rfl, ho0, hb⟩; refine ⟨_, rfl, ?_⟩; have n0_ := Aside0.mk (Kd.R_elder' (bR HO599.out) (Kd.R_base ho0) hb); have n1_ := Aside0.mk (Kd.R_lower (Kd.R_new' ho0 (Kd.R_lt (bR HO599.out))) (below_size (by repeat (first | (with_reducible first | exact bw HB.out | refine bset ?_ | apply bA | apply bN | apply bD) | exact HB.out)))); have n2_ := Aside0.mk (blk_below (bs BK569.out) hb); have n3_ := Aside0.mk (blk_below (bs BK583.out) hb); have n4_ := Aside0.mk (blk_below (bs BK589.out) hb); have n5_ := Aside0.mk (blk_below (bs BK595.out) hb); have n6_ := Aside0.mk (below_step (by repeat (first | (with_reducible first | exact bw HB.out | refine bset ?_ | apply bA | apply bN | apply bD) | exact HB.out)) hb); replace HO599 := n0_; have HO603 := n1_; replace BK569 := n2_; replace BK583 := n3_; replace BK589 := n4_; replace BK595 := n5_; replace HB := n6_; clear n0_ n1_ n2_ n3_ n4_ n5_ n6_; (try clear hb); (try clear hb2); (try clear hk); (try clear hi); (try clear ho0); obtain ⟨Ao154, co154, eo154⟩ := Kd.R_slice HO603.out; subst eo154; obtain ⟨Ao155, co155, eo155⟩ := Kd.R_slice HO599.out; subst eo155))
      go_ret
      exact ⟨by first | rfl | (simp [errW_none, errW_some] <;> rfl) | (simp [*, errW_none, errW_some] <;> rfl), by repeat (first | (with_reducible first | exact bw HB.out | refine bset ?_ | apply bA | apply bN | apply bD) | exact HB.out)⟩
     rw [if_pos c88] at H
     have c88b0 : decide ((t601.length : Int) ≤ (t597.length : Int)) = true := decide_eq_true c88
     have c88b1 : decide (t601.length ≤ t597.length) = true := decide_eq_true (Int.ofNat_le.mp c88)
     clear c88
     by_cases c89 : 0 ≤ (t601.length : Int)
     rotate_left
     ·rw [if_neg c89] at H
      exact absurd H (by simp)
     rw [if_pos c89] at H
     have c89b0 := eq_true c89
     have c89b1 : decide (0 ≤ (t601.length : Int)) = true := decide_eq_true c89
     clear c89
     have c90b0 := eq_true (of_decide_eq_true (by first | (with_reducible assumption) | assumption) : (t601.length : Int) ≤ (t597.length : Int))
     obtain ⟨y605, hy605⟩ : ∃ y_ : List (S25), y_ = (t597.take ((t601.length : Int) : Int).toNat) := ⟨_, rfl⟩
     replace H : ((laws_vRecords.f kj51 t601 y605).bind fun t609 => (if t609 = true then (if t568 = true then (some true) else (if t567 < (t565.size : Int) then (some true) else (some ((t601.length : Int) == (t597.length : Int))))) else (some false))) = some r := by first | (rw [hy605]; with_reducible exact H) | (have H2_ := (Option.bind_some _ _).symm.trans H; rw [hy605]; with_reducible exact H2_) | (have H2_ := (Option.bind_some _ _).symm.trans H; with_reducible exact H2_) | with_reducible exact H | (rw [hy605]; exact H) | exact H
     have Ny605 := Aside0.mk hy605
     clear hy605
     replace H := Option.bind_eq_some_iff.mp H
     obtain ⟨t609, A910, H⟩ := H
     replace H : (if t609 = true then (if t568 = true then (some true) else (if t567 < (t565.size : Int) then (some true) else (some ((t601.length : Int) == (t597.length : Int))))) else (some false)) = some r := H
     have A91 := Aside0.mk A910
     clear A910
     by_cases c92 : t609 = true
     rotate_left
     ·replace c92 := Bool.eq_false_iff.mpr c92
      subst c92
      have H1 : (some false) = some r := by rw [if_neg (show ¬ (false = true) by decide)] at H; exact H
      clear H
      have H := H1
      clear H1
      obtain rfl := Option.some.inj H
      have hnb133 := NB569_583.out
      have hnc133 := NB583_569.out
      have hnb134 := NB569_589.out
      have hnc134 := NB589_569.out
      have hnb135 := NB569_595.out
      have hnc135 := NB595_569.out
      obtain ⟨hcz136_0, hcz136_1, hcz136_2, hfz136_0, hfz136_1, hfz136_2⟩ := bz3 BK569.out
      go_wp2_with (first | ((with_reducible refine gate_callee (f := 21) rfl ?_); refine goesL_ (some 115) rfl rfl Try.func21 (by kernel_rfl) rfl #[.agg #[.string t564, .string t565, .int .i64 t566]] rfl (by (try simp only [mA_]); first | done | rfl | (simp only [List.length_drop, List.length_take]; rfl)) ?_; (with_reducible refine (impl_LogRecords.calls kj51 t564 t565 t566 t597 t600 _ A86.out).mono ?_); rintro e w137 ⟨v598, rfl, ho0, hb⟩; refine ⟨_, rfl, ?_⟩; have n0_ := Aside0.mk (Kd.R_lower ho0 (below_size (by repeat (first | (with_reducible first | exact bw HB.out | refine bset ?_ | apply bA | apply bN | apply bD) | exact HB.out)))); have n1_ := Aside0.mk (blk_below (bs BK569.out) hb); have n2_ := Aside0.mk (blk_below (bs BK583.out) hb); have n3_ := Aside0.mk (blk_below (bs BK589.out) hb); have n4_ := Aside0.mk (blk_below (bs BK595.out) hb); have n5_ := Aside0.mk (below_step (by repeat (first | (with_reducible first | exact bw HB.out | refine bset ?_ | apply bA | apply bN | apply bD) | exact HB.out)) hb); have HO599 := n0_; replace BK569 := n1_; replace BK583 := n2_; replace BK589 := n3_; replace BK595 := n4_; replace HB := n5_; clear n0_ n1_ n2_ n3_ n4_ n5_; (try clear hb); (try clear hb2); (try clear hk); (try clear hi); (try clear ho0); have hnb138 := NB595_583.out; have hnc138 := NB583_595.out; have hnb139 := NB595_589.out; have hnc139 := NB589_595.out; obtain ⟨hcz140_0, hcz140_1, hcz140_2, hfz140_0, hfz140_1, hfz140_2⟩ := bz3 BK595.out) | ((with_reducible refine gate_callee (f := 21) rfl ?_); refine goesL_ (some 120) rfl rfl Try.func21 (by kernel_rfl) rfl #[.agg #[.string t590, .string t591, .int .i64 t592]] rfl (by (try simp only [mA_]); first | done | rfl | (simp only [List.length_drop, List.length_take]; rfl)) ?_; (with_reducible refine (impl_LogRecords.calls kj51 t590 t591 t592 t601 t604 _ A87.out).mono ?_); rintro e w141 ⟨v602, rfl, ho0, hb⟩; refine ⟨_, rfl, ?_⟩; have n0_ := Aside0.mk (Kd.R_elder' (bR HO599.out) (Kd.R_base ho0) hb); have n1_ := Aside0.mk (Kd.R_lower (Kd.R_new' ho0 (Kd.R_lt (bR HO599.out))) (below_size (by repeat (first | (with_reducible first | exact bw HB.out | refine bset ?_ | apply bA | apply bN | apply bD) | exact HB.out)))); have n2_ := Aside0.mk (blk_below (bs BK569.out) hb); have n3_ := Aside0.mk (blk_below (bs BK583.out) hb); have n4_ := Aside0.mk (blk_below (bs BK589.out) hb); have n5_ := Aside0.mk (blk_below (bs BK595.out) hb); have n6_ := Aside0.mk (below_step (by repeat (first | (with_reducible first | exact bw HB.out | refine bset ?_ | apply bA | apply bN | apply bD) | exact HB.out)) hb); replace HO599 := n0_; have HO603 := n1_; replace BK569 := n2_; replace BK583 := n3_; replace BK589 := n4_; replace BK595 := n5_; replace HB := n6_; clear n0_ n1_ n2_ n3_ n4_ n5_ n6_; (try clear hb); (try clear hb2); (try clear hk); (try clear hi); (try clear ho0); obtain ⟨Ao142, co142, eo142⟩ := Kd.R_slice HO603.out; subst eo142; obtain ⟨Ao143, co143, eo143⟩ := Kd.R_slice HO599.out; subst eo143; have q144 : ((t601.length : Int) : Int) ≤ ((t597.length : Int) : Int) := of_decide_eq_true (by first | (with_reducible assumption) | assumption); obtain ⟨i0144, hi0144, _, hsz144, _⟩ := info_parts info25; have hroom144 : t597.length ≤ co143 := (Kd.R_reads' HO599.out).2.1; have hC144 : Kd.C k25 _ Ao143 t597.length t597 := (Kd.R_reads' HO599.out).2.2; have hcut144 := cut_to (P := Try.prog) 43 25 .i64 Try.underlying43 hi0144 Ao143 t597.length co143 (t601.length : Int) (of_decide_eq_true (by first | (with_reducible assumption) | assumption)) q144 hroom144; have hr144 := Kd.C_take (m := ((t601.length : Int) : Int).toNat) hC144 (by omega); have hy144 : y605.length = ((t601.length : Int) : Int).toNat := (by rw [Ny605.out, List.length_take]; omega); rw [← Ny605.out] at hr144; rw [← hy144] at hcut144; have HR608 := Aside0.mk hr144; have HC608 := Aside0.mk (show y605.length ≤ co143 from by omega); clear hr144 hC144 hroom144 hi0144 hsz144; have KY144 := Aside0.mk hy144; clear hy144; have KL144 := Aside0.mk (show ((t601.length : Int) : Int).toNat ≤ t597.length from by omega); replace q144 := eq_true q144) | (go_at_call 23; (with_reducible refine (laws_vRecords.calls kj51 _ _ t601 _ _ y605 false _ ?side1 ?side2 ?side3 ?side4 A91.out).mono ?_); (case side1 => repeat (first | exact (Kd.R_reads' HO603.out).2.2 | (with_reducible refine Kd.C_alloc ?_ _) | (with_reducible refine Kd.C_drewN ?_ _) | (with_reducible refine Kd.C_drew ?_))); (case side2 => exact (Kd.R_reads' HO603.out).2.1); (case side3 => repeat (first | exact (by repeat (first | (with_reducible exact HR608.out) | (with_reducible refine Kd.C_alloc ?_ _) | (with_reducible refine Kd.C_drewN ?_ _) | (with_reducible refine Kd.C_drew ?_) | exact HR608.out)) | (with_reducible refine Kd.C_alloc ?_ _) | (with_reducible refine Kd.C_drewN ?_ _) | (with_reducible refine Kd.C_drew ?_))); (case side4 => exact HC608.out); rintro e w' ⟨rfl, ⟨nd, rfl⟩⟩))
      go_ret
      exact ⟨by first | rfl | (simp [errW_none, errW_some] <;> rfl) | (simp [*, errW_none, errW_some] <;> rfl), by repeat (first | (with_reducible first | exact bw HB.out | refine bset ?_ | apply bA | apply bN | apply bD) | exact HB.out)⟩
     subst c92
     have H1 : (if t568 = true then (some true) else (if t567 < (t565.size : Int) then (some true) else (some ((t601.length : Int) == (t597.length : Int))))) = some r := by rw [if_pos rfl] at H; exact H
     clear H
     have H := H1
     clear H1
     by_cases c93 : t568 = true
     ·subst c93
      have H1 : (some true) = some r := by rw [if_pos rfl] at H; exact H
      clear H
      have H := H1
      clear H1
      obtain rfl := Option.some.inj H
      have hnb94 := NB569_583.out
      have hnc94 := NB583_569.out
      have hnb95 := NB569_589.out
      have hnc95 := NB589_569.out
      have hnb96 := NB569_595.out
      have hnc96 := NB595_569.out
      obtain ⟨hcz97_0, hcz97_1, hcz97_2, hfz97_0, hfz97_1, hfz97_2⟩ := bz3 BK569.out
      go_wp2_with (first | ((with_reducible refine gate_callee (f := 21) rfl ?_); refine goesL_ (some 115) rfl rfl Try.func21 (by kernel_rfl) rfl #[.agg #[.string t564, .string t565, .int .i64 t566]] rfl (by (try simp only [mA_]); first | done | rfl | (simp only [List.length_drop, List.length_take]; rfl)) ?_; (with_reducible refine (impl_LogRecords.calls kj51 t564 t565 t566 t597 t600 _ A86.out).mono ?_); rintro e w98 ⟨v598, rfl, ho0, hb⟩; refine ⟨_, rfl, ?_⟩; have n0_ := Aside0.mk (Kd.R_lower ho0 (below_size (by repeat (first | (with_reducible first | exact bw HB.out | refine bset ?_ | apply bA | apply bN | apply bD) | exact HB.out)))); have n1_ := Aside0.mk (blk_below (bs BK569.out) hb); have n2_ := Aside0.mk (blk_below (bs BK583.out) hb); have n3_ := Aside0.mk (blk_below (bs BK589.out) hb); have n4_ := Aside0.mk (blk_below (bs BK595.out) hb); have n5_ := Aside0.mk (below_step (by repeat (first | (with_reducible first | exact bw HB.out | refine bset ?_ | apply bA | apply bN | apply bD) | exact HB.out)) hb); have HO599 := n0_; replace BK569 := n1_; replace BK583 := n2_; replace BK589 := n3_; replace BK595 := n4_; replace HB := n5_; clear n0_ n1_ n2_ n3_ n4_ n5_; (try clear hb); (try clear hb2); (try clear hk); (try clear hi); (try clear ho0); have hnb99 := NB595_583.out; have hnc99 := NB583_595.out; have hnb100 := NB595_589.out; have hnc100 := NB589_595.out; obtain ⟨hcz101_0, hcz101_1, hcz101_2, hfz101_0, hfz101_1, hfz101_2⟩ := bz3 BK595.out) | ((with_reducible refine gate_callee (f := 21) rfl ?_); refine goesL_ (some 120) rfl rfl Try.func21 (by kernel_rfl) rfl #[.agg #[.string t590, .string t591, .int .i64 t592]] rfl (by (try simp only [mA_]); first | done | rfl | (simp only [List.length_drop, List.length_take]; rfl)) ?_; (with_reducible refine (impl_LogRecords.calls kj51 t590 t591 t592 t601 t604 _ A87.out).mono ?_); rintro e w102 ⟨v602, rfl, ho0, hb⟩; refine ⟨_, rfl, ?_⟩; have n0_ := Aside0.mk (Kd.R_elder' (bR HO599.out) (Kd.R_base ho0) hb); have n1_ := Aside0.mk (Kd.R_lower (Kd.R_new' ho0 (Kd.R_lt (bR HO599.out))) (below_size (by repeat (first | (with_reducible first | exact bw HB.out | refine bset ?_ | apply bA | apply bN | apply bD) | exact HB.out)))); have n2_ := Aside0.mk (blk_below (bs BK569.out) hb); have n3_ := Aside0.mk (blk_below (bs BK583.out) hb); have n4_ := Aside0.mk (blk_below (bs BK589.out) hb); have n5_ := Aside0.mk (blk_below (bs BK595.out) hb); have n6_ := Aside0.mk (below_step (by repeat (first | (with_reducible first | exact bw HB.out | refine bset ?_ | apply bA | apply bN | apply bD) | exact HB.out)) hb); replace HO599 := n0_; have HO603 := n1_; replace BK569 := n2_; replace BK583 := n3_; replace BK589 := n4_; replace BK595 := n5_; replace HB := n6_; clear n0_ n1_ n2_ n3_ n4_ n5_ n6_; (try clear hb); (try clear hb2); (try clear hk); (try clear hi); (try clear ho0); obtain ⟨Ao103, co103, eo103⟩ := Kd.R_slice HO603.out; subst eo103; obtain ⟨Ao104, co104, eo104⟩ := Kd.R_slice HO599.out; subst eo104; have q105 : ((t601.length : Int) : Int) ≤ ((t597.length : Int) : Int) := of_decide_eq_true (by first | (with_reducible assumption) | assumption); obtain ⟨i0105, hi0105, _, hsz105, _⟩ := info_parts info25; have hroom105 : t597.length ≤ co104 := (Kd.R_reads' HO599.out).2.1; have hC105 : Kd.C k25 _ Ao104 t597.length t597 := (Kd.R_reads' HO599.out).2.2; have hcut105 := cut_to (P := Try.prog) 43 25 .i64 Try.underlying43 hi0105 Ao104 t597.length co104 (t601.length : Int) (of_decide_eq_true (by first | (with_reducible assumption) | assumption)) q105 hroom105; have hr105 := Kd.C_take (m := ((t601.length : Int) : Int).toNat) hC105 (by omega); have hy105 : y605.length = ((t601.length : Int) : Int).toNat := (by rw [Ny605.out, List.length_take]; omega); rw [← Ny605.out] at hr105; rw [← hy105] at hcut105; have HR608 := Aside0.mk hr105; have HC608 := Aside0.mk (show y605.length ≤ co104 from by omega); clear hr105 hC105 hroom105 hi0105 hsz105; have KY105 := Aside0.mk hy105; clear hy105; have KL105 := Aside0.mk (show ((t601.length : Int) : Int).toNat ≤ t597.length from by omega); replace q105 := eq_true q105) | (go_at_call 23; (with_reducible refine (laws_vRecords.calls kj51 _ _ t601 _ _ y605 true _ ?side1 ?side2 ?side3 ?side4 A91.out).mono ?_); (case side1 => repeat (first | exact (Kd.R_reads' HO603.out).2.2 | (with_reducible refine Kd.C_alloc ?_ _) | (with_reducible refine Kd.C_drewN ?_ _) | (with_reducible refine Kd.C_drew ?_))); (case side2 => exact (Kd.R_reads' HO603.out).2.1); (case side3 => repeat (first | exact (by repeat (first | (with_reducible exact HR608.out) | (with_reducible refine Kd.C_alloc ?_ _) | (with_reducible refine Kd.C_drewN ?_ _) | (with_reducible refine Kd.C_drew ?_) | exact HR608.out)) | (with_reducible refine Kd.C_alloc ?_ _) | (with_reducible refine Kd.C_drewN ?_ _) | (with_reducible refine Kd.C_drew ?_))); (case side4 => exact HC608.out); rintro e w' ⟨rfl, ⟨nd, rfl⟩⟩))
      go_ret
      exact ⟨by first | rfl | (simp [errW_none, errW_some] <;> rfl) | (simp [*, errW_none, errW_some] <;> rfl), by repeat (first | (with_reducible first | exact bw HB.out | refine bset ?_ | apply bA | apply bN | apply bD) | exact HB.out)⟩
     replace c93 := Bool.eq_false_iff.mpr c93
     subst c93
     have H1 : (if t567 < (t565.size : Int) then (some true) else (some ((t601.length : Int) == (t597.length : Int)))) = some r := by rw [if_neg (show ¬ (false = true) by decide)] at H; exact H
     clear H
     have H := H1
     clear H1
     by_cases c106 : t567 < (t565.size : Int)
     ·rw [if_pos c106] at H
      have c106b0 : decide (t567 < (t565.size : Int)) = true := decide_eq_true c106
      clear c106
      obtain rfl := Option.some.inj H
      have hnb107 := NB569_583.out
      have hnc107 := NB583_569.out
      have hnb108 := NB569_589.out
      have hnc108 := NB589_569.out
      have hnb109 := NB569_595.out
      have hnc109 := NB595_569.out
      obtain ⟨hcz110_0, hcz110_1, hcz110_2, hfz110_0, hfz110_1, hfz110_2⟩ := bz3 BK569.out
      go_wp2_with (first | ((with_reducible refine gate_callee (f := 21) rfl ?_); refine goesL_ (some 115) rfl rfl Try.func21 (by kernel_rfl) rfl #[.agg #[.string t564, .string t565, .int .i64 t566]] rfl (by (try simp only [mA_]); first | done | rfl | (simp only [List.length_drop, List.length_take]; rfl)) ?_; (with_reducible refine (impl_LogRecords.calls kj51 t564 t565 t566 t597 t600 _ A86.out).mono ?_); rintro e w111 ⟨v598, rfl, ho0, hb⟩; refine ⟨_, rfl, ?_⟩; have n0_ := Aside0.mk (Kd.R_lower ho0 (below_size (by repeat (first | (with_reducible first | exact bw HB.out | refine bset ?_ | apply bA | apply bN | apply bD) | exact HB.out)))); have n1_ := Aside0.mk (blk_below (bs BK569.out) hb); have n2_ := Aside0.mk (blk_below (bs BK583.out) hb); have n3_ := Aside0.mk (blk_below (bs BK589.out) hb); have n4_ := Aside0.mk (blk_below (bs BK595.out) hb); have n5_ := Aside0.mk (below_step (by repeat (first | (with_reducible first | exact bw HB.out | refine bset ?_ | apply bA | apply bN | apply bD) | exact HB.out)) hb); have HO599 := n0_; replace BK569 := n1_; replace BK583 := n2_; replace BK589 := n3_; replace BK595 := n4_; replace HB := n5_; clear n0_ n1_ n2_ n3_ n4_ n5_; (try clear hb); (try clear hb2); (try clear hk); (try clear hi); (try clear ho0); have hnb112 := NB595_583.out; have hnc112 := NB583_595.out; have hnb113 := NB595_589.out; have hnc113 := NB589_595.out; obtain ⟨hcz114_0, hcz114_1, hcz114_2, hfz114_0, hfz114_1, hfz114_2⟩ := bz3 BK595.out) | ((with_reducible refine gate_callee (f := 21) rfl ?_); refine goesL_ (some 120) rfl rfl Try.func21 (by kernel_rfl) rfl #[.agg #[.string t590, .string t591, .int .i64 t592]] rfl (by (try simp only [mA_]); first | done | rfl | (simp only [List.length_drop, List.length_take]; rfl)) ?_; (with_reducible refine (impl_LogRecords.calls kj51 t590 t591 t592 t601 t604 _ A87.out).mono ?_); rintro e w115 ⟨v602, rfl, ho0, hb⟩; refine ⟨_, rfl, ?_⟩; have n0_ := Aside0.mk (Kd.R_elder' (bR HO599.out) (Kd.R_base ho0) hb); have n1_ := Aside0.mk (Kd.R_lower (Kd.R_new' ho0 (Kd.R_lt (bR HO599.out))) (below_size (by repeat (first | (with_reducible first | exact bw HB.out | refine bset ?_ | apply bA | apply bN | apply bD) | exact HB.out)))); have n2_ := Aside0.mk (blk_below (bs BK569.out) hb); have n3_ := Aside0.mk (blk_below (bs BK583.out) hb); have n4_ := Aside0.mk (blk_below (bs BK589.out) hb); have n5_ := Aside0.mk (blk_below (bs BK595.out) hb); have n6_ := Aside0.mk (below_step (by repeat (first | (with_reducible first | exact bw HB.out | refine bset ?_ | apply bA | apply bN | apply bD) | exact HB.out)) hb); replace HO599 := n0_; have HO603 := n1_; replace BK569 := n2_; replace BK583 := n3_; replace BK589 := n4_; replace BK595 := n5_; replace HB := n6_; clear n0_ n1_ n2_ n3_ n4_ n5_ n6_; (try clear hb); (try clear hb2); (try clear hk); (try clear hi); (try clear ho0); obtain ⟨Ao116, co116, eo116⟩ := Kd.R_slice HO603.out; subst eo116; obtain ⟨Ao117, co117, eo117⟩ := Kd.R_slice HO599.out; subst eo117; have q118 : ((t601.length : Int) : Int) ≤ ((t597.length : Int) : Int) := of_decide_eq_true (by first | (with_reducible assumption) | assumption); obtain ⟨i0118, hi0118, _, hsz118, _⟩ := info_parts info25; have hroom118 : t597.length ≤ co117 := (Kd.R_reads' HO599.out).2.1; have hC118 : Kd.C k25 _ Ao117 t597.length t597 := (Kd.R_reads' HO599.out).2.2; have hcut118 := cut_to (P := Try.prog) 43 25 .i64 Try.underlying43 hi0118 Ao117 t597.length co117 (t601.length : Int) (of_decide_eq_true (by first | (with_reducible assumption) | assumption)) q118 hroom118; have hr118 := Kd.C_take (m := ((t601.length : Int) : Int).toNat) hC118 (by omega); have hy118 : y605.length = ((t601.length : Int) : Int).toNat := (by rw [Ny605.out, List.length_take]; omega); rw [← Ny605.out] at hr118; rw [← hy118] at hcut118; have HR608 := Aside0.mk hr118; have HC608 := Aside0.mk (show y605.length ≤ co117 from by omega); clear hr118 hC118 hroom118 hi0118 hsz118; have KY118 := Aside0.mk hy118; clear hy118; have KL118 := Aside0.mk (show ((t601.length : Int) : Int).toNat ≤ t597.length from by omega); replace q118 := eq_true q118) | (go_at_call 23; (with_reducible refine (laws_vRecords.calls kj51 _ _ t601 _ _ y605 true _ ?side1 ?side2 ?side3 ?side4 A91.out).mono ?_); (case side1 => repeat (first | exact (Kd.R_reads' HO603.out).2.2 | (with_reducible refine Kd.C_alloc ?_ _) | (with_reducible refine Kd.C_drewN ?_ _) | (with_reducible refine Kd.C_drew ?_))); (case side2 => exact (Kd.R_reads' HO603.out).2.1); (case side3 => repeat (first | exact (by repeat (first | (with_reducible exact HR608.out) | (with_reducible refine Kd.C_alloc ?_ _) | (with_reducible refine Kd.C_drewN ?_ _) | (with_reducible refine Kd.C_drew ?_) | exact HR608.out)) | (with_reducible refine Kd.C_alloc ?_ _) | (with_reducible refine Kd.C_drewN ?_ _) | (with_reducible refine Kd.C_drew ?_))); (case side4 => exact HC608.out); rintro e w' ⟨rfl, ⟨nd, rfl⟩⟩; obtain ⟨hcz119_0, hcz119_1, hcz119_2, hfz119_0, hfz119_1, hfz119_2⟩ := bz3 BK569.out))
      go_ret
      exact ⟨by first | rfl | (simp [errW_none, errW_some] <;> rfl) | (simp [*, errW_none, errW_some] <;> rfl), by repeat (first | (with_reducible first | exact bw HB.out | refine bset ?_ | apply bA | apply bN | apply bD) | exact HB.out)⟩
     rw [if_neg c106] at H
     have c106b0 : decide (t567 < (t565.size : Int)) = false := decide_eq_false c106
     clear c106
     obtain rfl := Option.some.inj H
     have hnb120 := NB569_583.out
     have hnc120 := NB583_569.out
     have hnb121 := NB569_589.out
     have hnc121 := NB589_569.out
     have hnb122 := NB569_595.out
     have hnc122 := NB595_569.out
     obtain ⟨hcz123_0, hcz123_1, hcz123_2, hfz123_0, hfz123_1, hfz123_2⟩ := bz3 BK569.out
     go_wp2_with (first | ((with_reducible refine gate_callee (f := 21) rfl ?_); refine goesL_ (some 115) rfl rfl Try.func21 (by kernel_rfl) rfl #[.agg #[.string t564, .string t565, .int .i64 t566]] rfl (by (try simp only [mA_]); first | done | rfl | (simp only [List.length_drop, List.length_take]; rfl)) ?_; (with_reducible refine (impl_LogRecords.calls kj51 t564 t565 t566 t597 t600 _ A86.out).mono ?_); rintro e w124 ⟨v598, rfl, ho0, hb⟩; refine ⟨_, rfl, ?_⟩; have n0_ := Aside0.mk (Kd.R_lower ho0 (below_size (by repeat (first | (with_reducible first | exact bw HB.out | refine bset ?_ | apply bA | apply bN | apply bD) | exact HB.out)))); have n1_ := Aside0.mk (blk_below (bs BK569.out) hb); have n2_ := Aside0.mk (blk_below (bs BK583.out) hb); have n3_ := Aside0.mk (blk_below (bs BK589.out) hb); have n4_ := Aside0.mk (blk_below (bs BK595.out) hb); have n5_ := Aside0.mk (below_step (by repeat (first | (with_reducible first | exact bw HB.out | refine bset ?_ | apply bA | apply bN | apply bD) | exact HB.out)) hb); have HO599 := n0_; replace BK569 := n1_; replace BK583 := n2_; replace BK589 := n3_; replace BK595 := n4_; replace HB := n5_; clear n0_ n1_ n2_ n3_ n4_ n5_; (try clear hb); (try clear hb2); (try clear hk); (try clear hi); (try clear ho0); have hnb125 := NB595_583.out; have hnc125 := NB583_595.out; have hnb126 := NB595_589.out; have hnc126 := NB589_595.out; obtain ⟨hcz127_0, hcz127_1, hcz127_2, hfz127_0, hfz127_1, hfz127_2⟩ := bz3 BK595.out) | ((with_reducible refine gate_callee (f := 21) rfl ?_); refine goesL_ (some 120) rfl rfl Try.func21 (by kernel_rfl) rfl #[.agg #[.string t590, .string t591, .int .i64 t592]] rfl (by (try simp only [mA_]); first | done | rfl | (simp only [List.length_drop, List.length_take]; rfl)) ?_; (with_reducible refine (impl_LogRecords.calls kj51 t590 t591 t592 t601 t604 _ A87.out).mono ?_); rintro e w128 ⟨v602, rfl, ho0, hb⟩; refine ⟨_, rfl, ?_⟩; have n0_ := Aside0.mk (Kd.R_elder' (bR HO599.out) (Kd.R_base ho0) hb); have n1_ := Aside0.mk (Kd.R_lower (Kd.R_new' ho0 (Kd.R_lt (bR HO599.out))) (below_size (by repeat (first | (with_reducible first | exact bw HB.out | refine bset ?_ | apply bA | apply bN | apply bD) | exact HB.out)))); have n2_ := Aside0.mk (blk_below (bs BK569.out) hb); have n3_ := Aside0.mk (blk_below (bs BK583.out) hb); have n4_ := Aside0.mk (blk_below (bs BK589.out) hb); have n5_ := Aside0.mk (blk_below (bs BK595.out) hb); have n6_ := Aside0.mk (below_step (by repeat (first | (with_reducible first | exact bw HB.out | refine bset ?_ | apply bA | apply bN | apply bD) | exact HB.out)) hb); replace HO599 := n0_; have HO603 := n1_; replace BK569 := n2_; replace BK583 := n3_; replace BK589 := n4_; replace BK595 := n5_; replace HB := n6_; clear n0_ n1_ n2_ n3_ n4_ n5_ n6_; (try clear hb); (try clear hb2); (try clear hk); (try clear hi); (try clear ho0); obtain ⟨Ao129, co129, eo129⟩ := Kd.R_slice HO603.out; subst eo129; obtain ⟨Ao130, co130, eo130⟩ := Kd.R_slice HO599.out; subst eo130; have q131 : ((t601.length : Int) : Int) ≤ ((t597.length : Int) : Int) := of_decide_eq_true (by first | (with_reducible assumption) | assumption); obtain ⟨i0131, hi0131, _, hsz131, _⟩ := info_parts info25; have hroom131 : t597.length ≤ co130 := (Kd.R_reads' HO599.out).2.1; have hC131 : Kd.C k25 _ Ao130 t597.length t597 := (Kd.R_reads' HO599.out).2.2; have hcut131 := cut_to (P := Try.prog) 43 25 .i64 Try.underlying43 hi0131 Ao130 t597.length co130 (t601.length : Int) (of_decide_eq_true (by first | (with_reducible assumption) | assumption)) q131 hroom131; have hr131 := Kd.C_take (m := ((t601.length : Int) : Int).toNat) hC131 (by omega); have hy131 : y605.length = ((t601.length : Int) : Int).toNat := (by rw [Ny605.out, List.length_take]; omega); rw [← Ny605.out] at hr131; rw [← hy131] at hcut131; have HR608 := Aside0.mk hr131; have HC608 := Aside0.mk (show y605.length ≤ co130 from by omega); clear hr131 hC131 hroom131 hi0131 hsz131; have KY131 := Aside0.mk hy131; clear hy131; have KL131 := Aside0.mk (show ((t601.length : Int) : Int).toNat ≤ t597.length from by omega); replace q131 := eq_true q131) | (go_at_call 23; (with_reducible refine (laws_vRecords.calls kj51 _ _ t601 _ _ y605 true _ ?side1 ?side2 ?side3 ?side4 A91.out).mono ?_); (case side1 => repeat (first | exact (Kd.R_reads' HO603.out).2.2 | (with_reducible refine Kd.C_alloc ?_ _) | (with_reducible refine Kd.C_drewN ?_ _) | (with_reducible refine Kd.C_drew ?_))); (case side2 => exact (Kd.R_reads' HO603.out).2.1); (case side3 => repeat (first | exact (by repeat (first | (with_reducible exact HR608.out) | (with_reducible refine Kd.C_alloc ?_ _) | (with_reducible refine Kd.C_drewN ?_ _) | (with_reducible refine Kd.C_drew ?_) | exact HR608.out)) | (with_reducible refine Kd.C_alloc ?_ _) | (with_reducible refine Kd.C_drewN ?_ _) | (with_reducible refine Kd.C_drew ?_))); (case side4 => exact HC608.out); rintro e w' ⟨rfl, ⟨nd, rfl⟩⟩; obtain ⟨hcz132_0, hcz132_1, hcz132_2, hfz132_0, hfz132_1, hfz132_2⟩ := bz3 BK569.out))
     go_ret
     exact ⟨by first | rfl | (simp [errW_none, errW_some] <;> rfl) | (simp [*, errW_none, errW_some] <;> rfl), by repeat (first | (with_reducible first | exact bw HB.out | refine bset ?_ | apply bA | apply bN | apply bD) | exact HB.out)⟩

/-- THE ONE PURE STATEMENT of laws_FnCrashes: yours. -/
def laws_FnCrashes.PureK : Prop := ∀ (l0 : List Int), l0.length ≤ maxLen → l0.length * 1 ≤ 140737488351232 → (∀ x ∈ l0, (Lit.int .u8 x).wf = true) → ∃ k, laws_FnCrashes.f k l0 = some true
theorem laws_FnCrashes.walk (P : laws_FnCrashes.PureK) (a0 : Option Addr) (len0 cap0 : Nat) (z0 : List Int) (w : World) (w0 : (a0 = none ∧ len0 = 0 ∧ cap0 = 0 ∧ z0 = []) ∨ ∃ x, a0 = some x ∧ len0 ≤ cap0 ∧ cap0 ≤ maxLen ∧ z0.length = cap0 ∧ (∀ i, i < z0.length → w.cell? (x.add i) = some (.int .u8 (z0.getD i 0))) ∧ ∀ n ∈ z0, (Lit.int .u8 n).wf = true) (y0 : len0 * 1 ≤ 140737488351232) :
  Calls Try.prog 4 #[.slice a0 len0 cap0] w fun e w' => e = .returned (.bool true) ∧ Below w.heap.size w w' := by
 obtain ⟨l0, rfl, hr0, hm0, hw0, hc0⟩ := ReadsInt.ofRowC w0
 obtain ⟨k, h⟩ := P l0 hm0 y0 hw0
 refine (laws_FnCrashes.calls k _ _ l0 true w (Kd.C_of_reads (d := (0 : Int)) (h1 := fun _ => rfl) hr0) hc0 h).mono ?_
 rintro e w' ⟨rfl, hd⟩
 exact ⟨rfl, hd⟩

end Go.Proofs.Yteakcfnhigaffaa.X
