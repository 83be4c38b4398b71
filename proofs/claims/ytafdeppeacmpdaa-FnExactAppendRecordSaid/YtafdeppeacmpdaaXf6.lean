-- Written by a program of this session (wip/gen/xp.py, over the kit's printer). Not trusted: Lean checks it.
import Derived.Test.YtafdeppeacmpdaaX0
import Derived.Test.YtafdeppeacmpdaaXf21
import Derived.Test.YtafdeppeacmpdaaXf25
import Derived.Test.YtafdeppeacmpdaaXf28
import Derived.Test.YtafdeppeacmpdaaXf29
import Derived.Test.YtafdeppeacmpdaaXf31
namespace Go.Proofs.Ytafdeppeacmpdaa.X
open Go.RowKit Go.Proofs.YtafdeppeacmpdaaW.PrintWords Go.Proofs.YtafdeppeacmpdaaW.PrintLast Go.Proofs.YtafdeppeacmpdaaW.PrintMore
attribute [local go_sem] max2_int min2_int max_two min_two max_three min_three max_four min_four   -- for this text's walks alone
set_option linter.unusedVariables false
set_option linter.unusedSimpArgs false

/-! ### laws_FnExactAppendRecord: function 6 -/
abbrev q6_0 : Array Bool := #[false, false, false, false, false, false, false, false, false, false, false]
abbrev q6_1 : Array Bool := #[true, false, false, false, false, false, false, false, false, false, false]
abbrev q6_2 : Array Bool := #[true, false, true, false, false, false, false, false, false, false, false]
abbrev q6_3 : Array Bool := #[true, true, true, true, true, true, true, true, true, false, false]
abbrev q6_4 : Array Bool := #[true, true, true, false, false, false, false, false, false, false, false]
abbrev q6_5 : Array Bool := #[true, false, true, false, false, false, false, false, true, false, false]
abbrev q6_6 : Array Bool := #[true, true, true, true, false, false, false, false, false, false, false]
abbrev q6_7 : Array Bool := #[true, true, true, false, false, false, false, false, true, false, false]
abbrev q6_8 : Array Bool := #[true, true, true, true, true, false, false, false, false, false, false]
abbrev q6_9 : Array Bool := #[true, true, true, true, false, false, false, false, true, false, false]
abbrev q6_13 : Array Bool := #[true, true, true, true, true, false, false, false, true, false, false]
abbrev q6_16 : Array Bool := #[true, true, true, true, true, true, true, true, true, true, false]
def laws_FnExactAppendRecord.f (k : Nat) (a0_0 : ByteArray) (a0_1 : ByteArray) (a0_2 : Int) (a1_0 : ByteArray) (a1_1 : ByteArray) : Option (Bool) := (laws_szLog.f a0_0 a0_1 a0_2 1048576).bind fun t418 => (if t418 < 0 then (some true) else ((laws_szLogRecord.f a1_0 a1_1 t418).bind fun t419 => (if t419 < 0 then (some true) else ((laws_toLog.f a0_0 a0_1 a0_2).bind fun bt420 => ((laws_toLogRecord.f a1_0 a1_1).bind fun bt423 => ((spec_AppendRecord.f k bt420.1 bt420.2.1 bt420.2.2 bt423.1 bt423.2).bind fun bt425 => ((laws_toLog.f a0_0 a0_1 a0_2).bind fun bt430 => ((laws_toLogRecord.f a1_0 a1_1).bind fun bt433 => ((impl_AppendRecord.f k bt430.1 bt430.2.1 bt430.2.2 bt433.1 bt433.2).bind fun bt435 => ((laws_eqLog.f bt435.1 bt435.2.1 bt435.2.2.1 bt425.1 bt425.2.1 bt425.2.2.1).bind fun t440 => (if t440 = true then (if bt435.2.2.2 = bt425.2.2.2 then (some true) else (some false)) else (some false))))))))))))
theorem laws_FnExactAppendRecord.mono : ∀ a0 a1 a2 a3 a4 k, LeO (laws_FnExactAppendRecord.f k a0 a1 a2 a3 a4) (laws_FnExactAppendRecord.f (k + 1) a0 a1 a2 a3 a4) := by
 intro a0 a1 a2 a3 a4 k
 unfold laws_FnExactAppendRecord.f
 repeat' first
   | (with_reducible exact impl_AppendRecord.mono _ _ _ _ _ _)
   | (with_reducible exact spec_AppendRecord.mono _ _ _ _ _ _)
   | (with_reducible exact LeO.refl _)
   | (with_reducible exact LeO.none _)
   | (with_reducible refine LeO.ite ?_ ?_)
   | (with_reducible refine LeO.bind ?_ (fun _ => ?_))
   | exact impl_AppendRecord.mono _ _ _ _ _ _
   | exact spec_AppendRecord.mono _ _ _ _ _ _
   | exact LeO.none _
   | refine LeO.ite ?_ ?_
   | refine LeO.bind ?_ (fun _ => ?_)
def laws_FnExactAppendRecord.T8 : Bool × List (List Nat × List Nat) := (true, [([], []), ([0], [0]), ([], []), ([2, 1], [2]), ([1, 3, 3], [1, 3]), ([4], [4]), ([5], [5]), ([5], [5]), ([], []), ([8, 6, 4, 0, 1, 2, 3, 4, 5, 6, 8], [6, 8]), ([7, 9, 0, 1, 2, 3, 4, 5, 6, 7, 8, 9], [7])])
def laws_FnExactAppendRecord.B8 : List Nat := [0, 1, 0, 7, 15, 31, 63, 63, 0, 383, 1023]
theorem laws_FnExactAppendRecord.tab8 : rtab .any (opsOf Try.f6 8) = laws_FnExactAppendRecord.T8 := by kernel_rfl
theorem laws_FnExactAppendRecord.bits8 : waitsOk laws_FnExactAppendRecord.T8.2 laws_FnExactAppendRecord.B8 = true := by kernel_rfl
def laws_FnExactAppendRecord.T9 : Bool × List (List Nat × List Nat) := (true, [([], []), ([0], [0]), ([], []), ([2, 1], [2]), ([1, 3, 3], [1, 3]), ([4], [4]), ([5], [5]), ([5], [5]), ([], []), ([8, 6, 4, 0, 1, 2, 3, 4, 5, 6, 8], [6, 8]), ([7, 9, 0, 1, 2, 3, 4, 5, 6, 7, 8, 9], [7])])
def laws_FnExactAppendRecord.B9 : List Nat := [0, 1, 0, 7, 15, 31, 63, 63, 0, 383, 1023]
theorem laws_FnExactAppendRecord.tab9 : rtab .any (opsOf Try.f6 9) = laws_FnExactAppendRecord.T9 := by kernel_rfl
theorem laws_FnExactAppendRecord.bits9 : waitsOk laws_FnExactAppendRecord.T9.2 laws_FnExactAppendRecord.B9 = true := by kernel_rfl
set_option maxHeartbeats 8000000 in
set_option maxRecDepth 100000 in
theorem laws_FnExactAppendRecord.calls (k : Nat) (a0_0 : ByteArray) (a0_1 : ByteArray) (a0_2 : Int) (a1_0 : ByteArray) (a1_1 : ByteArray) (r : Bool) (w : World) (h : laws_FnExactAppendRecord.f k a0_0 a0_1 a0_2 a1_0 a1_1 = some r) :
  Calls Try.prog 6 #[.agg #[.string a0_0, .string a0_1, .int .i64 a0_2], .agg #[.string a1_0, .string a1_1]] w fun e w' => e = .returned (.bool r) ∧ Below w.heap.size w w' := by
 have hu32 := Try.underlying32
 have hu44 := Try.underlying44
 have hu34 := Try.underlying34
 have HB := Aside0.mk (Below.refl w.heap.size w)
 have H : ((laws_szLog.f a0_0 a0_1 a0_2 1048576).bind fun t418 => (if t418 < 0 then (some true) else ((laws_szLogRecord.f a1_0 a1_1 t418).bind fun t419 => (if t419 < 0 then (some true) else ((laws_toLog.f a0_0 a0_1 a0_2).bind fun bt420 => ((laws_toLogRecord.f a1_0 a1_1).bind fun bt423 => ((spec_AppendRecord.f k bt420.1 bt420.2.1 bt420.2.2 bt423.1 bt423.2).bind fun bt425 => ((laws_toLog.f a0_0 a0_1 a0_2).bind fun bt430 => ((laws_toLogRecord.f a1_0 a1_1).bind fun bt433 => ((impl_AppendRecord.f k bt430.1 bt430.2.1 bt430.2.2 bt433.1 bt433.2).bind fun bt435 => ((laws_eqLog.f bt435.1 bt435.2.1 bt435.2.2.1 bt425.1 bt425.2.1 bt425.2.2.1).bind fun t440 => (if t440 = true then (if bt435.2.2.2 = bt425.2.2.2 then (some true) else (some false)) else (some false))))))))))))) = some r := h
 clear h
 replace H := Option.bind_eq_some_iff.mp H
 obtain ⟨t418, A30, H⟩ := H
 replace H : (if t418 < 0 then (some true) else ((laws_szLogRecord.f a1_0 a1_1 t418).bind fun t419 => (if t419 < 0 then (some true) else ((laws_toLog.f a0_0 a0_1 a0_2).bind fun bt420 => ((laws_toLogRecord.f a1_0 a1_1).bind fun bt423 => ((spec_AppendRecord.f k bt420.1 bt420.2.1 bt420.2.2 bt423.1 bt423.2).bind fun bt425 => ((laws_toLog.f a0_0 a0_1 a0_2).bind fun bt430 => ((laws_toLogRecord.f a1_0 a1_1).bind fun bt433 => ((impl_AppendRecord.f k bt430.1 bt430.2.1 bt430.2.2 bt433.1 bt433.2).bind fun bt435 => ((laws_eqLog.f bt435.1 bt435.2.1 bt435.2.2.1 bt425.1 bt425.2.1 bt425.2.2.1).bind fun t440 => (if t440 = true then (if bt435.2.2.2 = bt425.2.2.2 then (some true) else (some false)) else (some false)))))))))))) = some r := H
 have A3 := Aside0.mk A30
 clear A30
 by_cases c4 : t418 < 0
 ·rw [if_pos c4] at H
  have c4b0 : decide (t418 < 0) = true := decide_eq_true c4
  clear c4
  obtain rfl := Option.some.inj H
  go_enter Try.func6, Try.ntmps6
  go_wp2_with (first | ((with_reducible refine gate_dst (N := 2) rfl ?_); refine box_event ?hg (N := 2) ?hd (cs := #[.string a0_0, .string a0_1, .int .i64 a0_2]) (t := 32) ?hr ?_; (case hd => rfl); (case hg => rfl); (case hr => first | (go_simp; done) | (go_simp; rfl)); intro gb416 hg w5 hbox hb; have n0_ := Aside0.mk (below_step (bw HB.out) hb); have n1_ := Aside0.mk (hbox); have n2_ := ge_ hg HB.out; have n3_ := ge_ hg HB.out; clear HB; have HB := n0_; have BK416 := n1_; have GW416 := n2_; have GE416 := n3_; clear n0_ n1_ n2_ n3_; clear hb hbox hg) | ((with_reducible refine gate_dst (N := 3) rfl ?_); refine box_event ?hg (N := 3) ?hd (cs := #[.string a1_0, .string a1_1]) (t := 44) ?hr ?_; (case hd => rfl); (case hg => rfl); (case hr => first | (go_simp; done) | (go_simp; rfl)); intro gb417 hg w6 hbox hb; have n0_ := Aside0.mk (blk_below (bs BK416.out) hb); have n1_ := Aside0.mk (below_step (by repeat (first | (with_reducible first | exact bw HB.out | refine bset ?_ (by assumption) | apply below_alloc | apply pw_below_drewN | apply below_drew1) | exact HB.out)) hb); have n2_ := Aside0.mk (hbox); have n3_ := Aside0.mk ((by rw [hg]; exact (below_size (by repeat (first | (with_reducible first | exact bw HB.out | refine bset ?_ (by assumption) | apply below_alloc | apply pw_below_drewN | apply below_drew1) | exact HB.out))) : w.heap.size ≤ gb417)); have n4_ := Aside0.mk ((by rw [hg]; exact (below_size (by repeat (first | (with_reducible first | exact bw HB.out | refine bset ?_ (by assumption) | apply below_alloc | apply pw_below_drewN | apply below_drew1) | exact HB.out))) : w.heap.size ≤ gb417)); have n5_ := ne_ hg BK416.out; have n6_ := en_ hg BK416.out; clear BK416; clear HB; have BK416 := n0_; have HB := n1_; have BK417 := n2_; have GW417 := n3_; have GE417 := n4_; have NB416_417 := n5_; have NB417_416 := n6_; clear n0_ n1_ n2_ n3_ n4_ n5_ n6_; clear hb hbox hg; have hnb7 := NB416_417.out; have hnc7 := NB417_416.out; have hcz8_0 := b3_0 BK416.out; have hcz8_1 := b3_1 BK416.out; have hcz8_2 := b3_2 BK416.out; have hfz8_0 := blk_frozen BK416.out 0; have hfz8_1 := blk_frozen BK416.out 1; have hfz8_2 := blk_frozen BK416.out 2) | ((with_reducible refine gate_callee (f := 21) rfl ?_); refine goesL_ (some 12) rfl rfl Try.func21 (by kernel_rfl) rfl #[.agg #[.string a0_0, .string a0_1, .int .i64 a0_2], .int .i64 1048576] rfl (by (try simp only [mA_]); first | done | rfl | (simp only [List.length_drop, List.length_take]; rfl)) ?_; (with_reducible refine (laws_szLog.calls a0_0 a0_1 a0_2 1048576 t418 _ A3.out).mono ?_); rintro e w9 ⟨rfl, hb⟩; refine ⟨_, rfl, ?_⟩; have n0_ := Aside0.mk (blk_below (bs BK416.out) hb); have n1_ := Aside0.mk (blk_below (bs BK417.out) hb); have n2_ := Aside0.mk (below_step (by repeat (first | (with_reducible first | exact bw HB.out | refine bset ?_ (by assumption) | apply below_alloc | apply pw_below_drewN | apply below_drew1) | exact HB.out)) hb); clear BK416; clear BK417; clear HB; have BK416 := n0_; have BK417 := n1_; have HB := n2_; clear n0_ n1_ n2_; (try clear hb); (try clear hb2); (try clear hk); (try clear hi)))
  go_ret
  exact ⟨by first | rfl | (simp [errW_none, errW_some] <;> rfl) | (simp [*, errW_none, errW_some] <;> rfl), by repeat (first | (with_reducible first | exact bw HB.out | refine bset ?_ (by assumption) | apply below_alloc | apply pw_below_drewN | apply below_drew1) | exact HB.out)⟩
 ·rw [if_neg c4] at H
  have c4b0 : decide (t418 < 0) = false := decide_eq_false c4
  clear c4
  replace H := Option.bind_eq_some_iff.mp H
  obtain ⟨t419, A100, H⟩ := H
  replace H : (if t419 < 0 then (some true) else ((laws_toLog.f a0_0 a0_1 a0_2).bind fun bt420 => ((laws_toLogRecord.f a1_0 a1_1).bind fun bt423 => ((spec_AppendRecord.f k bt420.1 bt420.2.1 bt420.2.2 bt423.1 bt423.2).bind fun bt425 => ((laws_toLog.f a0_0 a0_1 a0_2).bind fun bt430 => ((laws_toLogRecord.f a1_0 a1_1).bind fun bt433 => ((impl_AppendRecord.f k bt430.1 bt430.2.1 bt430.2.2 bt433.1 bt433.2).bind fun bt435 => ((laws_eqLog.f bt435.1 bt435.2.1 bt435.2.2.1 bt425.1 bt425.2.1 bt425.2.2.1).bind fun t440 => (if t440 = true then (if bt435.2.2.2 = bt425.2.2.2 then (some true) else (some false)) else (some false)))))))))) = some r := H
  have A10 := Aside0.mk A100
  clear A100
  by_cases c11 : t419 < 0
  ·rw [if_pos c11] at H
   have c11b0 : decide (t419 < 0) = true := decide_eq_true c11
   clear c11
   obtain rfl := Option.some.inj H
   go_enter Try.func6, Try.ntmps6
   go_wp2_with (first | ((with_reducible refine gate_dst (N := 2) rfl ?_); refine box_event ?hg (N := 2) ?hd (cs := #[.string a0_0, .string a0_1, .int .i64 a0_2]) (t := 32) ?hr ?_; (case hd => rfl); (case hg => rfl); (case hr => first | (go_simp; done) | (go_simp; rfl)); intro gb416 hg w12 hbox hb; have n0_ := Aside0.mk (below_step (bw HB.out) hb); have n1_ := Aside0.mk (hbox); have n2_ := ge_ hg HB.out; have n3_ := ge_ hg HB.out; clear HB; have HB := n0_; have BK416 := n1_; have GW416 := n2_; have GE416 := n3_; clear n0_ n1_ n2_ n3_; clear hb hbox hg) | ((with_reducible refine gate_dst (N := 3) rfl ?_); refine box_event ?hg (N := 3) ?hd (cs := #[.string a1_0, .string a1_1]) (t := 44) ?hr ?_; (case hd => rfl); (case hg => rfl); (case hr => first | (go_simp; done) | (go_simp; rfl)); intro gb417 hg w13 hbox hb; have n0_ := Aside0.mk (blk_below (bs BK416.out) hb); have n1_ := Aside0.mk (below_step (by repeat (first | (with_reducible first | exact bw HB.out | refine bset ?_ (by assumption) | apply below_alloc | apply pw_below_drewN | apply below_drew1) | exact HB.out)) hb); have n2_ := Aside0.mk (hbox); have n3_ := Aside0.mk ((by rw [hg]; exact (below_size (by repeat (first | (with_reducible first | exact bw HB.out | refine bset ?_ (by assumption) | apply below_alloc | apply pw_below_drewN | apply below_drew1) | exact HB.out))) : w.heap.size ≤ gb417)); have n4_ := Aside0.mk ((by rw [hg]; exact (below_size (by repeat (first | (with_reducible first | exact bw HB.out | refine bset ?_ (by assumption) | apply below_alloc | apply pw_below_drewN | apply below_drew1) | exact HB.out))) : w.heap.size ≤ gb417)); have n5_ := ne_ hg BK416.out; have n6_ := en_ hg BK416.out; clear BK416; clear HB; have BK416 := n0_; have HB := n1_; have BK417 := n2_; have GW417 := n3_; have GE417 := n4_; have NB416_417 := n5_; have NB417_416 := n6_; clear n0_ n1_ n2_ n3_ n4_ n5_ n6_; clear hb hbox hg; have hnb14 := NB416_417.out; have hnc14 := NB417_416.out; have hcz15_0 := b3_0 BK416.out; have hcz15_1 := b3_1 BK416.out; have hcz15_2 := b3_2 BK416.out; have hfz15_0 := blk_frozen BK416.out 0; have hfz15_1 := blk_frozen BK416.out 1; have hfz15_2 := blk_frozen BK416.out 2) | ((with_reducible refine gate_callee (f := 21) rfl ?_); refine goesL_ (some 12) rfl rfl Try.func21 (by kernel_rfl) rfl #[.agg #[.string a0_0, .string a0_1, .int .i64 a0_2], .int .i64 1048576] rfl (by (try simp only [mA_]); first | done | rfl | (simp only [List.length_drop, List.length_take]; rfl)) ?_; (with_reducible refine (laws_szLog.calls a0_0 a0_1 a0_2 1048576 t418 _ A3.out).mono ?_); rintro e w16 ⟨rfl, hb⟩; refine ⟨_, rfl, ?_⟩; have n0_ := Aside0.mk (blk_below (bs BK416.out) hb); have n1_ := Aside0.mk (blk_below (bs BK417.out) hb); have n2_ := Aside0.mk (below_step (by repeat (first | (with_reducible first | exact bw HB.out | refine bset ?_ (by assumption) | apply below_alloc | apply pw_below_drewN | apply below_drew1) | exact HB.out)) hb); clear BK416; clear BK417; clear HB; have BK416 := n0_; have BK417 := n1_; have HB := n2_; clear n0_ n1_ n2_; (try clear hb); (try clear hb2); (try clear hk); (try clear hi); have hcz17_0 := b2_0 BK417.out; have hcz17_1 := b2_1 BK417.out; have hfz17_0 := blk_frozen BK417.out 0; have hfz17_1 := blk_frozen BK417.out 1) | ((with_reducible refine gate_callee (f := 28) rfl ?_); refine goesL_ (some 17) rfl rfl Try.func28 (by kernel_rfl) rfl #[.agg #[.string a1_0, .string a1_1], .int .i64 t418] rfl (by (try simp only [mA_]); first | done | rfl | (simp only [List.length_drop, List.length_take]; rfl)) ?_; (with_reducible refine (laws_szLogRecord.calls a1_0 a1_1 t418 t419 _ A10.out).mono ?_); rintro e w18 ⟨rfl, hb⟩; refine ⟨_, rfl, ?_⟩; have n0_ := Aside0.mk (blk_below (bs BK416.out) hb); have n1_ := Aside0.mk (blk_below (bs BK417.out) hb); have n2_ := Aside0.mk (below_step (by repeat (first | (with_reducible first | exact bw HB.out | refine bset ?_ (by assumption) | apply below_alloc | apply pw_below_drewN | apply below_drew1) | exact HB.out)) hb); clear BK416; clear BK417; clear HB; have BK416 := n0_; have BK417 := n1_; have HB := n2_; clear n0_ n1_ n2_; (try clear hb); (try clear hb2); (try clear hk); (try clear hi)))
   go_ret
   exact ⟨by first | rfl | (simp [errW_none, errW_some] <;> rfl) | (simp [*, errW_none, errW_some] <;> rfl), by repeat (first | (with_reducible first | exact bw HB.out | refine bset ?_ (by assumption) | apply below_alloc | apply pw_below_drewN | apply below_drew1) | exact HB.out)⟩
  ·rw [if_neg c11] at H
   have c11b0 : decide (t419 < 0) = false := decide_eq_false c11
   clear c11
   replace H := Option.bind_eq_some_iff.mp H
   obtain ⟨⟨t420, t421, t422⟩, A190, H⟩ := H
   replace H : ((laws_toLogRecord.f a1_0 a1_1).bind fun bt423 => ((spec_AppendRecord.f k t420 t421 t422 bt423.1 bt423.2).bind fun bt425 => ((laws_toLog.f a0_0 a0_1 a0_2).bind fun bt430 => ((laws_toLogRecord.f a1_0 a1_1).bind fun bt433 => ((impl_AppendRecord.f k bt430.1 bt430.2.1 bt430.2.2 bt433.1 bt433.2).bind fun bt435 => ((laws_eqLog.f bt435.1 bt435.2.1 bt435.2.2.1 bt425.1 bt425.2.1 bt425.2.2.1).bind fun t440 => (if t440 = true then (if bt435.2.2.2 = bt425.2.2.2 then (some true) else (some false)) else (some false)))))))) = some r := H
   have A19 := Aside0.mk A190
   clear A190
   replace H := Option.bind_eq_some_iff.mp H
   obtain ⟨⟨t423, t424⟩, A200, H⟩ := H
   replace H : ((spec_AppendRecord.f k t420 t421 t422 t423 t424).bind fun bt425 => ((laws_toLog.f a0_0 a0_1 a0_2).bind fun bt430 => ((laws_toLogRecord.f a1_0 a1_1).bind fun bt433 => ((impl_AppendRecord.f k bt430.1 bt430.2.1 bt430.2.2 bt433.1 bt433.2).bind fun bt435 => ((laws_eqLog.f bt435.1 bt435.2.1 bt435.2.2.1 bt425.1 bt425.2.1 bt425.2.2.1).bind fun t440 => (if t440 = true then (if bt435.2.2.2 = bt425.2.2.2 then (some true) else (some false)) else (some false))))))) = some r := H
   have A20 := Aside0.mk A200
   clear A200
   replace H := Option.bind_eq_some_iff.mp H
   obtain ⟨⟨t425, t426, t427, t428⟩, A210, H⟩ := H
   replace H : ((laws_toLog.f a0_0 a0_1 a0_2).bind fun bt430 => ((laws_toLogRecord.f a1_0 a1_1).bind fun bt433 => ((impl_AppendRecord.f k bt430.1 bt430.2.1 bt430.2.2 bt433.1 bt433.2).bind fun bt435 => ((laws_eqLog.f bt435.1 bt435.2.1 bt435.2.2.1 t425 t426 t427).bind fun t440 => (if t440 = true then (if bt435.2.2.2 = t428 then (some true) else (some false)) else (some false)))))) = some r := H
   have A21 := Aside0.mk A210
   clear A210
   replace H := Option.bind_eq_some_iff.mp H
   obtain ⟨⟨t430, t431, t432⟩, A220, H⟩ := H
   replace H : ((laws_toLogRecord.f a1_0 a1_1).bind fun bt433 => ((impl_AppendRecord.f k t430 t431 t432 bt433.1 bt433.2).bind fun bt435 => ((laws_eqLog.f bt435.1 bt435.2.1 bt435.2.2.1 t425 t426 t427).bind fun t440 => (if t440 = true then (if bt435.2.2.2 = t428 then (some true) else (some false)) else (some false))))) = some r := H
   have A22 := Aside0.mk A220
   clear A220
   replace H := Option.bind_eq_some_iff.mp H
   obtain ⟨⟨t433, t434⟩, A230, H⟩ := H
   replace H : ((impl_AppendRecord.f k t430 t431 t432 t433 t434).bind fun bt435 => ((laws_eqLog.f bt435.1 bt435.2.1 bt435.2.2.1 t425 t426 t427).bind fun t440 => (if t440 = true then (if bt435.2.2.2 = t428 then (some true) else (some false)) else (some false)))) = some r := H
   have A23 := Aside0.mk A230
   clear A230
   replace H := Option.bind_eq_some_iff.mp H
   obtain ⟨⟨t435, t436, t437, t438⟩, A240, H⟩ := H
   replace H : ((laws_eqLog.f t435 t436 t437 t425 t426 t427).bind fun t440 => (if t440 = true then (if t438 = t428 then (some true) else (some false)) else (some false))) = some r := H
   have A24 := Aside0.mk A240
   clear A240
   replace H := Option.bind_eq_some_iff.mp H
   obtain ⟨t440, A250, H⟩ := H
   replace H : (if t440 = true then (if t438 = t428 then (some true) else (some false)) else (some false)) = some r := H
   have A25 := Aside0.mk A250
   clear A250
   by_cases c26 : t440 = true
   ·subst c26
    have H1 : (if t438 = t428 then (some true) else (some false)) = some r := by rw [if_pos rfl] at H; exact H
    clear H
    have H := H1
    clear H1
    by_cases c27 : t438 = t428
    ·rw [if_pos c27] at H
     have c27b0 : (t438 == t428) = true := beq_iff_eq.mpr c27
     have c27b1 : (t438 != t428) = false := bne_eq_false_iff_eq.mpr c27
     clear c27
     obtain rfl := Option.some.inj H
     go_enter Try.func6, Try.ntmps6
     try go_wp2_with (first | ((with_reducible refine gate_dst (N := 2) rfl ?_); refine box_event ?hg (N := 2) ?hd (cs := #[.string a0_0, .string a0_1, .int .i64 a0_2]) (t := 32) ?hr ?_; (case hd => rfl); (case hg => rfl); (case hr => first | (go_simp; done) | (go_simp; rfl)); intro gb416 hg w28 hbox hb; have n0_ := Aside0.mk (below_step (bw HB.out) hb); have n1_ := Aside0.mk (hbox); have n2_ := ge_ hg HB.out; have n3_ := ge_ hg HB.out; clear HB; have HB := n0_; have BK416 := n1_; have GW416 := n2_; have GE416 := n3_; clear n0_ n1_ n2_ n3_; clear hb hbox hg) | ((with_reducible refine gate_dst (N := 3) rfl ?_); refine box_event ?hg (N := 3) ?hd (cs := #[.string a1_0, .string a1_1]) (t := 44) ?hr ?_; (case hd => rfl); (case hg => rfl); (case hr => first | (go_simp; done) | (go_simp; rfl)); intro gb417 hg w29 hbox hb; have n0_ := Aside0.mk (blk_below (bs BK416.out) hb); have n1_ := Aside0.mk (below_step (by repeat (first | (with_reducible first | exact bw HB.out | refine bset ?_ (by assumption) | apply below_alloc | apply pw_below_drewN | apply below_drew1) | exact HB.out)) hb); have n2_ := Aside0.mk (hbox); have n3_ := Aside0.mk ((by rw [hg]; exact (below_size (by repeat (first | (with_reducible first | exact bw HB.out | refine bset ?_ (by assumption) | apply below_alloc | apply pw_below_drewN | apply below_drew1) | exact HB.out))) : w.heap.size ≤ gb417)); have n4_ := Aside0.mk ((by rw [hg]; exact (below_size (by repeat (first | (with_reducible first | exact bw HB.out | refine bset ?_ (by assumption) | apply below_alloc | apply pw_below_drewN | apply below_drew1) | exact HB.out))) : w.heap.size ≤ gb417)); have n5_ := ne_ hg BK416.out; have n6_ := en_ hg BK416.out; clear BK416; clear HB; have BK416 := n0_; have HB := n1_; have BK417 := n2_; have GW417 := n3_; have GE417 := n4_; have NB416_417 := n5_; have NB417_416 := n6_; clear n0_ n1_ n2_ n3_ n4_ n5_ n6_; clear hb hbox hg; have hnb30 := NB416_417.out; have hnc30 := NB417_416.out; have hcz31_0 := b3_0 BK416.out; have hcz31_1 := b3_1 BK416.out; have hcz31_2 := b3_2 BK416.out; have hfz31_0 := blk_frozen BK416.out 0; have hfz31_1 := blk_frozen BK416.out 1; have hfz31_2 := blk_frozen BK416.out 2) | ((with_reducible refine gate_callee (f := 21) rfl ?_); refine goesL_ (some 12) rfl rfl Try.func21 (by kernel_rfl) rfl #[.agg #[.string a0_0, .string a0_1, .int .i64 a0_2], .int .i64 1048576] rfl (by (try simp only [mA_]); first | done | rfl | (simp only [List.length_drop, List.length_take]; rfl)) ?_; (with_reducible refine (laws_szLog.calls a0_0 a0_1 a0_2 1048576 t418 _ A3.out).mono ?_); rintro e w32 ⟨rfl, hb⟩; refine ⟨_, rfl, ?_⟩; have n0_ := Aside0.mk (blk_below (bs BK416.out) hb); have n1_ := Aside0.mk (blk_below (bs BK417.out) hb); have n2_ := Aside0.mk (below_step (by repeat (first | (with_reducible first | exact bw HB.out | refine bset ?_ (by assumption) | apply below_alloc | apply pw_below_drewN | apply below_drew1) | exact HB.out)) hb); clear BK416; clear BK417; clear HB; have BK416 := n0_; have BK417 := n1_; have HB := n2_; clear n0_ n1_ n2_; (try clear hb); (try clear hb2); (try clear hk); (try clear hi); have hcz33_0 := b2_0 BK417.out; have hcz33_1 := b2_1 BK417.out; have hfz33_0 := blk_frozen BK417.out 0; have hfz33_1 := blk_frozen BK417.out 1) | ((with_reducible refine gate_callee (f := 28) rfl ?_); refine goesL_ (some 17) rfl rfl Try.func28 (by kernel_rfl) rfl #[.agg #[.string a1_0, .string a1_1], .int .i64 t418] rfl (by (try simp only [mA_]); first | done | rfl | (simp only [List.length_drop, List.length_take]; rfl)) ?_; (with_reducible refine (laws_szLogRecord.calls a1_0 a1_1 t418 t419 _ A10.out).mono ?_); rintro e w34 ⟨rfl, hb⟩; refine ⟨_, rfl, ?_⟩; have n0_ := Aside0.mk (blk_below (bs BK416.out) hb); have n1_ := Aside0.mk (blk_below (bs BK417.out) hb); have n2_ := Aside0.mk (below_step (by repeat (first | (with_reducible first | exact bw HB.out | refine bset ?_ (by assumption) | apply below_alloc | apply pw_below_drewN | apply below_drew1) | exact HB.out)) hb); clear BK416; clear BK417; clear HB; have BK416 := n0_; have BK417 := n1_; have HB := n2_; clear n0_ n1_ n2_; (try clear hb); (try clear hb2); (try clear hk); (try clear hi)))
     have n0_ := Aside0.mk (blk_drew BK416.out)
     have n1_ := Aside0.mk (blk_drew BK417.out)
     have n2_ := Aside0.mk (below_drew1 HB.out)
     clear BK416
     clear BK417
     clear HB
     have BK416 := n0_
     have BK417 := n1_
     have HB := n2_
     clear n0_ n1_ n2_
     refine start_ (n := 11) (S := fun w' => w'.cell? ⟨gb416, 0, none⟩ = some (.string a0_0) ∧ w'.cell? ⟨gb416, 1, none⟩ = some (.string a0_1) ∧ w'.cell? ⟨gb416, 2, none⟩ = some (.int .i64 a0_2) ∧ w'.cell? ⟨gb417, 0, none⟩ = some (.string a1_0) ∧ w'.cell? ⟨gb417, 1, none⟩ = some (.string a1_1)) (ds := []) q6_0 (by kernel_rfl) rfl rfl ⟨(blk_cell BK416.out 0).trans rfl, (blk_cell BK416.out 1).trans rfl, (blk_cell BK416.out 2).trans rfl, (blk_cell BK417.out 0).trans rfl, (blk_cell BK417.out 1).trans rfl⟩ (fun hHeld => ?_); refine with_tabW laws_FnExactAppendRecord.tab8 laws_FnExactAppendRecord.bits8 (fun HT_ HW_ => ?_)
     generalize w34.drew = w35 at BK416 BK417 HB hHeld ⊢
     refine take_ (i := 0) (N := some 21) (v := ?_) (a' := ?_) q6_1 rfl rfl (take_ofW HT_.out HW_.out (by kernel_rfl)) (fun _ _ _ h => h) (Or.inl ⟨by rfl, ?_⟩) hHeld ?_ ?_
     rotate_left
     ·rintro w' ⟨s0, s1, s2, s3, s4⟩
      go_simp
      with_reducible rfl
     rotate_left
     ·simp only [aq_]
      rfl
     refine take_ (i := 2) (N := some 23) (v := ?_) (a' := ?_) q6_2 rfl rfl (take_ofW HT_.out HW_.out (by kernel_rfl)) (fun _ _ _ h => h) (Or.inl ⟨by rfl, ?_⟩) hHeld ?_ ?_
     rotate_left
     ·rintro w' ⟨s0, s1, s2, s3, s4⟩
      go_simp
      with_reducible rfl
     rotate_left
     ·simp only [aq_]
      rfl
     refine join_ (σ := Nat) 2 q6_3 (fun s_ => [(22, .agg #[.string t420, .string t421, .int .i64 t422]), (24, .agg #[.string t423, .string t424]), (25, .tuple #[.agg #[.string t425, .string t426, .int .i64 t427], .int .i64 t428]), (6, .pointer (some ⟨s_, 0, none⟩)), (20, .tuple #[.agg #[.string t425, .string t426, .int .i64 t427], .int .i64 t428]), (26, .agg #[.string t425, .string t426, .int .i64 t427]), (27, .int .i64 t428)]) (fun s_ w' => (w'.cell? ⟨gb416, 0, none⟩ = some (.string a0_0) ∧ w'.cell? ⟨gb416, 1, none⟩ = some (.string a0_1) ∧ w'.cell? ⟨gb416, 2, none⟩ = some (.int .i64 a0_2) ∧ w'.cell? ⟨gb417, 0, none⟩ = some (.string a1_0) ∧ w'.cell? ⟨gb417, 1, none⟩ = some (.string a1_1)) ∧ (w'.heap[gb416]? = some (.cells #[.string a0_0, .string a0_1, .int .i64 a0_2] 32 (0, 0))) ∧ (w'.heap[gb417]? = some (.cells #[.string a1_0, .string a1_1] 44 (0, 0))) ∧ (w'.heap[s_]? = some (.cells #[.string (⟨#[]⟩ : ByteArray), .string (⟨#[]⟩ : ByteArray), .int .i64 0] 34 (0, 0))) ∧ (w.heap.size ≤ s_) ∧ (w.heap.size ≤ s_) ∧ (gb416 ≠ s_) ∧ (s_ ≠ gb416) ∧ (gb417 ≠ s_) ∧ (s_ ≠ gb417) ∧ (Below w.heap.size w w')) ?_ ?_
     rotate_left
     ·intro hCont
      refine two_ (i := 1) (j := 8) (Ni := some 22) (Nj := some 6) q6_4 q6_5 rfl rfl rfl rfl (two_of HT_.out (by kernel_rfl)) (by decide) (by decide) (fun K hK => ?_) (fun K hK => ?_)
      ·skip
       refine goes_ Try.func23 (by kernel_rfl) rfl #[.agg #[.string a0_0, .string a0_1, .int .i64 a0_2]] (by rfl) rfl rfl (by (try simp only [mA_]); first | done | rfl | (simp only [List.length_drop, List.length_take]; rfl)) ?_
       with_reducible refine (laws_toLog.calls a0_0 a0_1 a0_2 t420 t421 t422 _ A19.out).mono ?_
       rintro e w36 ⟨rfl, hb⟩
       refine ⟨_, rfl, ?_⟩
       have n0_ := Aside0.mk (blk_below (bs BK416.out) hb)
       have n1_ := Aside0.mk (blk_below (bs BK417.out) hb)
       have n2_ := Aside0.mk (below_step (by repeat (first | (with_reducible first | exact bw HB.out | refine bset ?_ (by assumption) | apply below_alloc | apply pw_below_drewN | apply below_drew1) | exact HB.out)) hb)
       clear BK416
       clear BK417
       clear HB
       have BK416 := n0_
       have BK417 := n1_
       have HB := n2_
       clear n0_ n1_ n2_
       (try clear hb)
       (try clear hb2)
       (try clear hk)
       (try clear hi)
       refine hK.out _ _ ⟨(blk_cell BK416.out 0).trans rfl, (blk_cell BK416.out 1).trans rfl, (blk_cell BK416.out 2).trans rfl, (blk_cell BK417.out 0).trans rfl, (blk_cell BK417.out 1).trans rfl⟩ (fun hHeld => ?_)
       clear hK K
       refine norm_ (a' := ?_) ?_ ?_
       rotate_left
       ·show Act.put _ (some 22) _ = _
        simp only [aq_]
        rfl
       refine two_ (i := 3) (j := 8) (Ni := some 24) (Nj := some 6) q6_6 q6_7 rfl rfl rfl rfl (two_of HT_.out (by kernel_rfl)) (by decide) (by decide) (fun K hK => ?_) (fun K hK => ?_)
       ·skip
        refine goes_ Try.func30 (by kernel_rfl) rfl #[.agg #[.string a1_0, .string a1_1]] (by rfl) rfl rfl (by (try simp only [mA_]); first | done | rfl | (simp only [List.length_drop, List.length_take]; rfl)) ?_
        with_reducible refine (laws_toLogRecord.calls a1_0 a1_1 t423 t424 _ A20.out).mono ?_
        rintro e w37 ⟨rfl, hb⟩
        refine ⟨_, rfl, ?_⟩
        have n0_ := Aside0.mk (blk_below (bs BK416.out) hb)
        have n1_ := Aside0.mk (blk_below (bs BK417.out) hb)
        have n2_ := Aside0.mk (below_step (by repeat (first | (with_reducible first | exact bw HB.out | refine bset ?_ (by assumption) | apply below_alloc | apply pw_below_drewN | apply below_drew1) | exact HB.out)) hb)
        clear BK416
        clear BK417
        clear HB
        have BK416 := n0_
        have BK417 := n1_
        have HB := n2_
        clear n0_ n1_ n2_
        (try clear hb)
        (try clear hb2)
        (try clear hk)
        (try clear hi)
        refine hK.out _ _ ⟨(blk_cell BK416.out 0).trans rfl, (blk_cell BK416.out 1).trans rfl, (blk_cell BK416.out 2).trans rfl, (blk_cell BK417.out 0).trans rfl, (blk_cell BK417.out 1).trans rfl⟩ (fun hHeld => ?_)
        clear hK K
        refine norm_ (a' := ?_) ?_ ?_
        rotate_left
        ·show Act.put _ (some 24) _ = _
         simp only [aq_]
         rfl
        refine two_ (i := 4) (j := 8) (Ni := some 25) (Nj := some 6) q6_8 q6_9 rfl rfl rfl rfl (two_of HT_.out (by kernel_rfl)) (by decide) (by decide) (fun K hK => ?_) (fun K hK => ?_)
        ·skip
         refine goes_ Try.func29 (by kernel_rfl) rfl #[.agg #[.string t420, .string t421, .int .i64 t422], .agg #[.string t423, .string t424]] (by rfl) rfl rfl (by (try simp only [mA_]); first | done | rfl | (simp only [List.length_drop, List.length_take]; rfl)) ?_
         with_reducible refine (spec_AppendRecord.calls k t420 t421 t422 t423 t424 t425 t426 t427 t428 _ A21.out).mono ?_
         rintro e w38 ⟨rfl, hb⟩
         refine ⟨_, rfl, ?_⟩
         have n0_ := Aside0.mk (blk_below (bs BK416.out) hb)
         have n1_ := Aside0.mk (blk_below (bs BK417.out) hb)
         have n2_ := Aside0.mk (below_step (by repeat (first | (with_reducible first | exact bw HB.out | refine bset ?_ (by assumption) | apply below_alloc | apply pw_below_drewN | apply below_drew1) | exact HB.out)) hb)
         clear BK416
         clear BK417
         clear HB
         have BK416 := n0_
         have BK417 := n1_
         have HB := n2_
         clear n0_ n1_ n2_
         (try clear hb)
         (try clear hb2)
         (try clear hk)
         (try clear hi)
         refine hK.out _ _ ⟨(blk_cell BK416.out 0).trans rfl, (blk_cell BK416.out 1).trans rfl, (blk_cell BK416.out 2).trans rfl, (blk_cell BK417.out 0).trans rfl, (blk_cell BK417.out 1).trans rfl⟩ (fun hHeld => ?_)
         clear hK K
         refine norm_ (a' := ?_) ?_ ?_
         rotate_left
         ·show Act.put _ (some 25) _ = _
          simp only [aq_]
          rfl
         refine pup_ (i := 5) (N := some 20) (v := ?_) (a' := ?_) HT_ rfl rfl (by kernel_rfl) (fun _ _ _ h => h) (Or.inl ⟨by rfl, ?_⟩) ?_ ?_
         rotate_left
         ·intro w'
          go_simp
          with_reducible rfl
         rotate_left
         ·simp only [aq_]
          rfl
         refine pup_ (i := 6) (N := some 26) (v := ?_) (a' := ?_) HT_ rfl rfl (by kernel_rfl) (fun _ _ _ h => h) (Or.inl ⟨by rfl, ?_⟩) ?_ ?_
         rotate_left
         ·intro w'
          go_simp
          with_reducible rfl
         rotate_left
         ·simp only [aq_]
          rfl
         refine pup_ (i := 7) (N := some 27) (v := ?_) (a' := ?_) HT_ rfl rfl (by kernel_rfl) (fun _ _ _ h => h) (Or.inl ⟨by rfl, ?_⟩) ?_ ?_
         rotate_left
         ·intro w'
          go_simp
          with_reducible rfl
         rotate_left
         ·simp only [aq_]
          rfl
         refine one_ (i := 8) (N := some 6) q6_3 rfl rfl (one_of HT_.out (by kernel_rfl)) (by decide) (fun K hK => ?_)
         refine box_step ?hg (N := 6) ?hd (cs := #[.string (⟨#[]⟩ : ByteArray), .string (⟨#[]⟩ : ByteArray), .int .i64 0]) (t := 34) ?hr ?_; (case hd => rfl); (case hg => rfl); (case hr => first | (go_simp; done) | (go_simp; rfl))
         intro gb429 hg w39 hbox hb
         have n0_ := Aside0.mk (blk_below (bs BK416.out) hb)
         have n1_ := Aside0.mk (blk_below (bs BK417.out) hb)
         have n2_ := Aside0.mk (below_step (by repeat (first | (with_reducible first | exact bw HB.out | refine bset ?_ (by assumption) | apply below_alloc | apply pw_below_drewN | apply below_drew1) | exact HB.out)) hb)
         have n3_ := Aside0.mk (hbox)
         have n4_ := Aside0.mk ((by rw [hg]; exact (below_size (by repeat (first | (with_reducible first | exact bw HB.out | refine bset ?_ (by assumption) | apply below_alloc | apply pw_below_drewN | apply below_drew1) | exact HB.out))) : w.heap.size ≤ gb429))
         have n5_ := Aside0.mk ((by rw [hg]; exact (below_size (by repeat (first | (with_reducible first | exact bw HB.out | refine bset ?_ (by assumption) | apply below_alloc | apply pw_below_drewN | apply below_drew1) | exact HB.out))) : w.heap.size ≤ gb429))
         have n6_ := ne_ hg BK416.out
         have n7_ := en_ hg BK416.out
         have n8_ := ne_ hg BK417.out
         have n9_ := en_ hg BK417.out
         clear BK416
         clear BK417
         clear HB
         have BK416 := n0_
         have BK417 := n1_
         have HB := n2_
         have BK429 := n3_
         have GW429 := n4_
         have GE429 := n5_
         have NB416_429 := n6_
         have NB429_416 := n7_
         have NB417_429 := n8_
         have NB429_417 := n9_
         clear n0_ n1_ n2_ n3_ n4_ n5_ n6_ n7_ n8_ n9_
         clear hb hbox hg
         refine hK.out _ _ ⟨(blk_cell BK416.out 0).trans rfl, (blk_cell BK416.out 1).trans rfl, (blk_cell BK416.out 2).trans rfl, (blk_cell BK417.out 0).trans rfl, (blk_cell BK417.out 1).trans rfl⟩ (fun hHeld => ?_)
         clear hK K
         refine norm_ (a' := ?_) ?_ ?_
         rotate_left
         ·show Act.put _ (some 6) _ = _
          simp only [aq_]
          rfl
         exact norm_ (by simp only [putAll, Act.put, List.setIfInBounds_toArray, List.set_cons_zero, List.set_cons_succ]) (hCont (gb429) _ ⟨hHeld, (bs BK416.out), (bs BK417.out), (bs BK429.out), GW429.out, GE429.out, NB416_429.out, NB429_416.out, NB417_429.out, NB429_417.out, (by repeat (first | (with_reducible first | exact bw HB.out | refine bset ?_ (by assumption) | apply below_alloc | apply pw_below_drewN | apply below_drew1) | exact HB.out))⟩)
        ·skip
         refine box_step ?hg (N := 6) ?hd (cs := #[.string (⟨#[]⟩ : ByteArray), .string (⟨#[]⟩ : ByteArray), .int .i64 0]) (t := 34) ?hr ?_; (case hd => rfl); (case hg => rfl); (case hr => first | (go_simp; done) | (go_simp; rfl))
         intro gb429 hg w38 hbox hb
         have n0_ := Aside0.mk (blk_below (bs BK416.out) hb)
         have n1_ := Aside0.mk (blk_below (bs BK417.out) hb)
         have n2_ := Aside0.mk (below_step (by repeat (first | (with_reducible first | exact bw HB.out | refine bset ?_ (by assumption) | apply below_alloc | apply pw_below_drewN | apply below_drew1) | exact HB.out)) hb)
         have n3_ := Aside0.mk (hbox)
         have n4_ := Aside0.mk ((by rw [hg]; exact (below_size (by repeat (first | (with_reducible first | exact bw HB.out | refine bset ?_ (by assumption) | apply below_alloc | apply pw_below_drewN | apply below_drew1) | exact HB.out))) : w.heap.size ≤ gb429))
         have n5_ := Aside0.mk ((by rw [hg]; exact (below_size (by repeat (first | (with_reducible first | exact bw HB.out | refine bset ?_ (by assumption) | apply below_alloc | apply pw_below_drewN | apply below_drew1) | exact HB.out))) : w.heap.size ≤ gb429))
         have n6_ := ne_ hg BK416.out
         have n7_ := en_ hg BK416.out
         have n8_ := ne_ hg BK417.out
         have n9_ := en_ hg BK417.out
         clear BK416
         clear BK417
         clear HB
         have BK416 := n0_
         have BK417 := n1_
         have HB := n2_
         have BK429 := n3_
         have GW429 := n4_
         have GE429 := n5_
         have NB416_429 := n6_
         have NB429_416 := n7_
         have NB417_429 := n8_
         have NB429_417 := n9_
         clear n0_ n1_ n2_ n3_ n4_ n5_ n6_ n7_ n8_ n9_
         clear hb hbox hg
         refine hK.out _ _ ⟨(blk_cell BK416.out 0).trans rfl, (blk_cell BK416.out 1).trans rfl, (blk_cell BK416.out 2).trans rfl, (blk_cell BK417.out 0).trans rfl, (blk_cell BK417.out 1).trans rfl⟩ (fun hHeld => ?_)
         clear hK K
         refine norm_ (a' := ?_) ?_ ?_
         rotate_left
         ·show Act.put _ (some 6) _ = _
          simp only [aq_]
          rfl
         refine one_ (i := 4) (N := some 25) q6_13 rfl rfl (one_of HT_.out (by kernel_rfl)) (by decide) (fun K hK => ?_)
         refine goes_ Try.func29 (by kernel_rfl) rfl #[.agg #[.string t420, .string t421, .int .i64 t422], .agg #[.string t423, .string t424]] (by rfl) rfl rfl (by (try simp only [mA_]); first | done | rfl | (simp only [List.length_drop, List.length_take]; rfl)) ?_
         with_reducible refine (spec_AppendRecord.calls k t420 t421 t422 t423 t424 t425 t426 t427 t428 _ A21.out).mono ?_
         rintro e w39 ⟨rfl, hb⟩
         refine ⟨_, rfl, ?_⟩
         have n0_ := Aside0.mk (blk_below (bs BK416.out) hb)
         have n1_ := Aside0.mk (blk_below (bs BK417.out) hb)
         have n2_ := Aside0.mk (blk_below (bs BK429.out) hb)
         have n3_ := Aside0.mk (below_step (by repeat (first | (with_reducible first | exact bw HB.out | refine bset ?_ (by assumption) | apply below_alloc | apply pw_below_drewN | apply below_drew1) | exact HB.out)) hb)
         clear BK416
         clear BK417
         clear BK429
         clear HB
         have BK416 := n0_
         have BK417 := n1_
         have BK429 := n2_
         have HB := n3_
         clear n0_ n1_ n2_ n3_
         (try clear hb)
         (try clear hb2)
         (try clear hk)
         (try clear hi)
         refine hK.out _ _ ⟨(blk_cell BK416.out 0).trans rfl, (blk_cell BK416.out 1).trans rfl, (blk_cell BK416.out 2).trans rfl, (blk_cell BK417.out 0).trans rfl, (blk_cell BK417.out 1).trans rfl⟩ (fun hHeld => ?_)
         clear hK K
         refine norm_ (a' := ?_) ?_ ?_
         rotate_left
         ·show Act.put _ (some 25) _ = _
          simp only [aq_]
          rfl
         refine pup_ (i := 5) (N := some 20) (v := ?_) (a' := ?_) HT_ rfl rfl (by kernel_rfl) (fun _ _ _ h => h) (Or.inl ⟨by rfl, ?_⟩) ?_ ?_
         rotate_left
         ·intro w'
          go_simp
          with_reducible rfl
         rotate_left
         ·simp only [aq_]
          rfl
         refine pup_ (i := 6) (N := some 26) (v := ?_) (a' := ?_) HT_ rfl rfl (by kernel_rfl) (fun _ _ _ h => h) (Or.inl ⟨by rfl, ?_⟩) ?_ ?_
         rotate_left
         ·intro w'
          go_simp
          with_reducible rfl
         rotate_left
         ·simp only [aq_]
          rfl
         refine pup_ (i := 7) (N := some 27) (v := ?_) (a' := ?_) HT_ rfl rfl (by kernel_rfl) (fun _ _ _ h => h) (Or.inl ⟨by rfl, ?_⟩) ?_ ?_
         rotate_left
         ·intro w'
          go_simp
          with_reducible rfl
         rotate_left
         ·simp only [aq_]
          rfl
         exact norm_ (by simp only [putAll, Act.put, List.setIfInBounds_toArray, List.set_cons_zero, List.set_cons_succ]) (hCont (gb429) _ ⟨hHeld, (bs BK416.out), (bs BK417.out), (bs BK429.out), GW429.out, GE429.out, NB416_429.out, NB429_416.out, NB417_429.out, NB429_417.out, (by repeat (first | (with_reducible first | exact bw HB.out | refine bset ?_ (by assumption) | apply below_alloc | apply pw_below_drewN | apply below_drew1) | exact HB.out))⟩)
       ·skip
        refine box_step ?hg (N := 6) ?hd (cs := #[.string (⟨#[]⟩ : ByteArray), .string (⟨#[]⟩ : ByteArray), .int .i64 0]) (t := 34) ?hr ?_; (case hd => rfl); (case hg => rfl); (case hr => first | (go_simp; done) | (go_simp; rfl))
        intro gb429 hg w37 hbox hb
        have n0_ := Aside0.mk (blk_below (bs BK416.out) hb)
        have n1_ := Aside0.mk (blk_below (bs BK417.out) hb)
        have n2_ := Aside0.mk (below_step (by repeat (first | (with_reducible first | exact bw HB.out | refine bset ?_ (by assumption) | apply below_alloc | apply pw_below_drewN | apply below_drew1) | exact HB.out)) hb)
        have n3_ := Aside0.mk (hbox)
        have n4_ := Aside0.mk ((by rw [hg]; exact (below_size (by repeat (first | (with_reducible first | exact bw HB.out | refine bset ?_ (by assumption) | apply below_alloc | apply pw_below_drewN | apply below_drew1) | exact HB.out))) : w.heap.size ≤ gb429))
        have n5_ := Aside0.mk ((by rw [hg]; exact (below_size (by repeat (first | (with_reducible first | exact bw HB.out | refine bset ?_ (by assumption) | apply below_alloc | apply pw_below_drewN | apply below_drew1) | exact HB.out))) : w.heap.size ≤ gb429))
        have n6_ := ne_ hg BK416.out
        have n7_ := en_ hg BK416.out
        have n8_ := ne_ hg BK417.out
        have n9_ := en_ hg BK417.out
        clear BK416
        clear BK417
        clear HB
        have BK416 := n0_
        have BK417 := n1_
        have HB := n2_
        have BK429 := n3_
        have GW429 := n4_
        have GE429 := n5_
        have NB416_429 := n6_
        have NB429_416 := n7_
        have NB417_429 := n8_
        have NB429_417 := n9_
        clear n0_ n1_ n2_ n3_ n4_ n5_ n6_ n7_ n8_ n9_
        clear hb hbox hg
        refine hK.out _ _ ⟨(blk_cell BK416.out 0).trans rfl, (blk_cell BK416.out 1).trans rfl, (blk_cell BK416.out 2).trans rfl, (blk_cell BK417.out 0).trans rfl, (blk_cell BK417.out 1).trans rfl⟩ (fun hHeld => ?_)
        clear hK K
        refine norm_ (a' := ?_) ?_ ?_
        rotate_left
        ·show Act.put _ (some 6) _ = _
         simp only [aq_]
         rfl
        refine one_ (i := 3) (N := some 24) q6_9 rfl rfl (one_of HT_.out (by kernel_rfl)) (by decide) (fun K hK => ?_)
        refine goes_ Try.func30 (by kernel_rfl) rfl #[.agg #[.string a1_0, .string a1_1]] (by rfl) rfl rfl (by (try simp only [mA_]); first | done | rfl | (simp only [List.length_drop, List.length_take]; rfl)) ?_
        with_reducible refine (laws_toLogRecord.calls a1_0 a1_1 t423 t424 _ A20.out).mono ?_
        rintro e w38 ⟨rfl, hb⟩
        refine ⟨_, rfl, ?_⟩
        have n0_ := Aside0.mk (blk_below (bs BK416.out) hb)
        have n1_ := Aside0.mk (blk_below (bs BK417.out) hb)
        have n2_ := Aside0.mk (blk_below (bs BK429.out) hb)
        have n3_ := Aside0.mk (below_step (by repeat (first | (with_reducible first | exact bw HB.out | refine bset ?_ (by assumption) | apply below_alloc | apply pw_below_drewN | apply below_drew1) | exact HB.out)) hb)
        clear BK416
        clear BK417
        clear BK429
        clear HB
        have BK416 := n0_
        have BK417 := n1_
        have BK429 := n2_
        have HB := n3_
        clear n0_ n1_ n2_ n3_
        (try clear hb)
        (try clear hb2)
        (try clear hk)
        (try clear hi)
        refine hK.out _ _ ⟨(blk_cell BK416.out 0).trans rfl, (blk_cell BK416.out 1).trans rfl, (blk_cell BK416.out 2).trans rfl, (blk_cell BK417.out 0).trans rfl, (blk_cell BK417.out 1).trans rfl⟩ (fun hHeld => ?_)
        clear hK K
        refine norm_ (a' := ?_) ?_ ?_
        rotate_left
        ·show Act.put _ (some 24) _ = _
         simp only [aq_]
         rfl
        refine one_ (i := 4) (N := some 25) q6_13 rfl rfl (one_of HT_.out (by kernel_rfl)) (by decide) (fun K hK => ?_)
        refine goes_ Try.func29 (by kernel_rfl) rfl #[.agg #[.string t420, .string t421, .int .i64 t422], .agg #[.string t423, .string t424]] (by rfl) rfl rfl (by (try simp only [mA_]); first | done | rfl | (simp only [List.length_drop, List.length_take]; rfl)) ?_
        with_reducible refine (spec_AppendRecord.calls k t420 t421 t422 t423 t424 t425 t426 t427 t428 _ A21.out).mono ?_
        rintro e w39 ⟨rfl, hb⟩
        refine ⟨_, rfl, ?_⟩
        have n0_ := Aside0.mk (blk_below (bs BK416.out) hb)
        have n1_ := Aside0.mk (blk_below (bs BK417.out) hb)
        have n2_ := Aside0.mk (blk_below (bs BK429.out) hb)
        have n3_ := Aside0.mk (below_step (by repeat (first | (with_reducible first | exact bw HB.out | refine bset ?_ (by assumption) | apply below_alloc | apply pw_below_drewN | apply below_drew1) | exact HB.out)) hb)
        clear BK416
        clear BK417
        clear BK429
        clear HB
        have BK416 := n0_
        have BK417 := n1_
        have BK429 := n2_
        have HB := n3_
        clear n0_ n1_ n2_ n3_
        (try clear hb)
        (try clear hb2)
        (try clear hk)
        (try clear hi)
        refine hK.out _ _ ⟨(blk_cell BK416.out 0).trans rfl, (blk_cell BK416.out 1).trans rfl, (blk_cell BK416.out 2).trans rfl, (blk_cell BK417.out 0).trans rfl, (blk_cell BK417.out 1).trans rfl⟩ (fun hHeld => ?_)
        clear hK K
        refine norm_ (a' := ?_) ?_ ?_
        rotate_left
        ·show Act.put _ (some 25) _ = _
         simp only [aq_]
         rfl
        refine pup_ (i := 5) (N := some 20) (v := ?_) (a' := ?_) HT_ rfl rfl (by kernel_rfl) (fun _ _ _ h => h) (Or.inl ⟨by rfl, ?_⟩) ?_ ?_
        rotate_left
        ·intro w'
         go_simp
         with_reducible rfl
        rotate_left
        ·simp only [aq_]
         rfl
        refine pup_ (i := 6) (N := some 26) (v := ?_) (a' := ?_) HT_ rfl rfl (by kernel_rfl) (fun _ _ _ h => h) (Or.inl ⟨by rfl, ?_⟩) ?_ ?_
        rotate_left
        ·intro w'
         go_simp
         with_reducible rfl
        rotate_left
        ·simp only [aq_]
         rfl
        refine pup_ (i := 7) (N := some 27) (v := ?_) (a' := ?_) HT_ rfl rfl (by kernel_rfl) (fun _ _ _ h => h) (Or.inl ⟨by rfl, ?_⟩) ?_ ?_
        rotate_left
        ·intro w'
         go_simp
         with_reducible rfl
        rotate_left
        ·simp only [aq_]
         rfl
        exact norm_ (by simp only [putAll, Act.put, List.setIfInBounds_toArray, List.set_cons_zero, List.set_cons_succ]) (hCont (gb429) _ ⟨hHeld, (bs BK416.out), (bs BK417.out), (bs BK429.out), GW429.out, GE429.out, NB416_429.out, NB429_416.out, NB417_429.out, NB429_417.out, (by repeat (first | (with_reducible first | exact bw HB.out | refine bset ?_ (by assumption) | apply below_alloc | apply pw_below_drewN | apply below_drew1) | exact HB.out))⟩)
      ·skip
       refine box_step ?hg (N := 6) ?hd (cs := #[.string (⟨#[]⟩ : ByteArray), .string (⟨#[]⟩ : ByteArray), .int .i64 0]) (t := 34) ?hr ?_; (case hd => rfl); (case hg => rfl); (case hr => first | (go_simp; done) | (go_simp; rfl))
       intro gb429 hg w36 hbox hb
       have n0_ := Aside0.mk (blk_below (bs BK416.out) hb)
       have n1_ := Aside0.mk (blk_below (bs BK417.out) hb)
       have n2_ := Aside0.mk (below_step (by repeat (first | (with_reducible first | exact bw HB.out | refine bset ?_ (by assumption) | apply below_alloc | apply pw_below_drewN | apply below_drew1) | exact HB.out)) hb)
       have n3_ := Aside0.mk (hbox)
       have n4_ := Aside0.mk ((by rw [hg]; exact (below_size (by repeat (first | (with_reducible first | exact bw HB.out | refine bset ?_ (by assumption) | apply below_alloc | apply pw_below_drewN | apply below_drew1) | exact HB.out))) : w.heap.size ≤ gb429))
       have n5_ := Aside0.mk ((by rw [hg]; exact (below_size (by repeat (first | (with_reducible first | exact bw HB.out | refine bset ?_ (by assumption) | apply below_alloc | apply pw_below_drewN | apply below_drew1) | exact HB.out))) : w.heap.size ≤ gb429))
       have n6_ := ne_ hg BK416.out
       have n7_ := en_ hg BK416.out
       have n8_ := ne_ hg BK417.out
       have n9_ := en_ hg BK417.out
       clear BK416
       clear BK417
       clear HB
       have BK416 := n0_
       have BK417 := n1_
       have HB := n2_
       have BK429 := n3_
       have GW429 := n4_
       have GE429 := n5_
       have NB416_429 := n6_
       have NB429_416 := n7_
       have NB417_429 := n8_
       have NB429_417 := n9_
       clear n0_ n1_ n2_ n3_ n4_ n5_ n6_ n7_ n8_ n9_
       clear hb hbox hg
       refine hK.out _ _ ⟨(blk_cell BK416.out 0).trans rfl, (blk_cell BK416.out 1).trans rfl, (blk_cell BK416.out 2).trans rfl, (blk_cell BK417.out 0).trans rfl, (blk_cell BK417.out 1).trans rfl⟩ (fun hHeld => ?_)
       clear hK K
       refine norm_ (a' := ?_) ?_ ?_
       rotate_left
       ·show Act.put _ (some 6) _ = _
        simp only [aq_]
        rfl
       refine one_ (i := 1) (N := some 22) q6_7 rfl rfl (one_of HT_.out (by kernel_rfl)) (by decide) (fun K hK => ?_)
       refine goes_ Try.func23 (by kernel_rfl) rfl #[.agg #[.string a0_0, .string a0_1, .int .i64 a0_2]] (by rfl) rfl rfl (by (try simp only [mA_]); first | done | rfl | (simp only [List.length_drop, List.length_take]; rfl)) ?_
       with_reducible refine (laws_toLog.calls a0_0 a0_1 a0_2 t420 t421 t422 _ A19.out).mono ?_
       rintro e w37 ⟨rfl, hb⟩
       refine ⟨_, rfl, ?_⟩
       have n0_ := Aside0.mk (blk_below (bs BK416.out) hb)
       have n1_ := Aside0.mk (blk_below (bs BK417.out) hb)
       have n2_ := Aside0.mk (blk_below (bs BK429.out) hb)
       have n3_ := Aside0.mk (below_step (by repeat (first | (with_reducible first | exact bw HB.out | refine bset ?_ (by assumption) | apply below_alloc | apply pw_below_drewN | apply below_drew1) | exact HB.out)) hb)
       clear BK416
       clear BK417
       clear BK429
       clear HB
       have BK416 := n0_
       have BK417 := n1_
       have BK429 := n2_
       have HB := n3_
       clear n0_ n1_ n2_ n3_
       (try clear hb)
       (try clear hb2)
       (try clear hk)
       (try clear hi)
       refine hK.out _ _ ⟨(blk_cell BK416.out 0).trans rfl, (blk_cell BK416.out 1).trans rfl, (blk_cell BK416.out 2).trans rfl, (blk_cell BK417.out 0).trans rfl, (blk_cell BK417.out 1).trans rfl⟩ (fun hHeld => ?_)
       clear hK K
       refine norm_ (a' := ?_) ?_ ?_
       rotate_left
       ·show Act.put _ (some 22) _ = _
        simp only [aq_]
        rfl
       refine one_ (i := 3) (N := some 24) q6_9 rfl rfl (one_of HT_.out (by kernel_rfl)) (by decide) (fun K hK => ?_)
       refine goes_ Try.func30 (by kernel_rfl) rfl #[.agg #[.string a1_0, .string a1_1]] (by rfl) rfl rfl (by (try simp only [mA_]); first | done | rfl | (simp only [List.length_drop, List.length_take]; rfl)) ?_
       with_reducible refine (laws_toLogRecord.calls a1_0 a1_1 t423 t424 _ A20.out).mono ?_
       rintro e w38 ⟨rfl, hb⟩
       refine ⟨_, rfl, ?_⟩
       have n0_ := Aside0.mk (blk_below (bs BK416.out) hb)
       have n1_ := Aside0.mk (blk_below (bs BK417.out) hb)
       have n2_ := Aside0.mk (blk_below (bs BK429.out) hb)
       have n3_ := Aside0.mk (below_step (by repeat (first | (with_reducible first | exact bw HB.out | refine bset ?_ (by assumption) | apply below_alloc | apply pw_below_drewN | apply below_drew1) | exact HB.out)) hb)
       clear BK416
       clear BK417
       clear BK429
       clear HB
       have BK416 := n0_
       have BK417 := n1_
       have BK429 := n2_
       have HB := n3_
       clear n0_ n1_ n2_ n3_
       (try clear hb)
       (try clear hb2)
       (try clear hk)
       (try clear hi)
       refine hK.out _ _ ⟨(blk_cell BK416.out 0).trans rfl, (blk_cell BK416.out 1).trans rfl, (blk_cell BK416.out 2).trans rfl, (blk_cell BK417.out 0).trans rfl, (blk_cell BK417.out 1).trans rfl⟩ (fun hHeld => ?_)
       clear hK K
       refine norm_ (a' := ?_) ?_ ?_
       rotate_left
       ·show Act.put _ (some 24) _ = _
        simp only [aq_]
        rfl
       refine one_ (i := 4) (N := some 25) q6_13 rfl rfl (one_of HT_.out (by kernel_rfl)) (by decide) (fun K hK => ?_)
       refine goes_ Try.func29 (by kernel_rfl) rfl #[.agg #[.string t420, .string t421, .int .i64 t422], .agg #[.string t423, .string t424]] (by rfl) rfl rfl (by (try simp only [mA_]); first | done | rfl | (simp only [List.length_drop, List.length_take]; rfl)) ?_
       with_reducible refine (spec_AppendRecord.calls k t420 t421 t422 t423 t424 t425 t426 t427 t428 _ A21.out).mono ?_
       rintro e w39 ⟨rfl, hb⟩
       refine ⟨_, rfl, ?_⟩
       have n0_ := Aside0.mk (blk_below (bs BK416.out) hb)
       have n1_ := Aside0.mk (blk_below (bs BK417.out) hb)
       have n2_ := Aside0.mk (blk_below (bs BK429.out) hb)
       have n3_ := Aside0.mk (below_step (by repeat (first | (with_reducible first | exact bw HB.out | refine bset ?_ (by assumption) | apply below_alloc | apply pw_below_drewN | apply below_drew1) | exact HB.out)) hb)
       clear BK416
       clear BK417
       clear BK429
       clear HB
       have BK416 := n0_
       have BK417 := n1_
       have BK429 := n2_
       have HB := n3_
       clear n0_ n1_ n2_ n3_
       (try clear hb)
       (try clear hb2)
       (try clear hk)
       (try clear hi)
       refine hK.out _ _ ⟨(blk_cell BK416.out 0).trans rfl, (blk_cell BK416.out 1).trans rfl, (blk_cell BK416.out 2).trans rfl, (blk_cell BK417.out 0).trans rfl, (blk_cell BK417.out 1).trans rfl⟩ (fun hHeld => ?_)
       clear hK K
       refine norm_ (a' := ?_) ?_ ?_
       rotate_left
       ·show Act.put _ (some 25) _ = _
        simp only [aq_]
        rfl
       refine pup_ (i := 5) (N := some 20) (v := ?_) (a' := ?_) HT_ rfl rfl (by kernel_rfl) (fun _ _ _ h => h) (Or.inl ⟨by rfl, ?_⟩) ?_ ?_
       rotate_left
       ·intro w'
        go_simp
        with_reducible rfl
       rotate_left
       ·simp only [aq_]
        rfl
       refine pup_ (i := 6) (N := some 26) (v := ?_) (a' := ?_) HT_ rfl rfl (by kernel_rfl) (fun _ _ _ h => h) (Or.inl ⟨by rfl, ?_⟩) ?_ ?_
       rotate_left
       ·intro w'
        go_simp
        with_reducible rfl
       rotate_left
       ·simp only [aq_]
        rfl
       refine pup_ (i := 7) (N := some 27) (v := ?_) (a' := ?_) HT_ rfl rfl (by kernel_rfl) (fun _ _ _ h => h) (Or.inl ⟨by rfl, ?_⟩) ?_ ?_
       rotate_left
       ·intro w'
        go_simp
        with_reducible rfl
       rotate_left
       ·simp only [aq_]
        rfl
       exact norm_ (by simp only [putAll, Act.put, List.setIfInBounds_toArray, List.set_cons_zero, List.set_cons_succ]) (hCont (gb429) _ ⟨hHeld, (bs BK416.out), (bs BK417.out), (bs BK429.out), GW429.out, GE429.out, NB416_429.out, NB429_416.out, NB417_429.out, NB429_417.out, (by repeat (first | (with_reducible first | exact bw HB.out | refine bset ?_ (by assumption) | apply below_alloc | apply pw_below_drewN | apply below_drew1) | exact HB.out))⟩)
     rintro gb429 w40 ⟨hS_, h0_, h1_, h2_, h3_, h4_, h5_, h6_, h7_, h8_, h9_⟩
     have n0_ : Aside0 (w40.heap[gb416]? = some (.cells #[.string a0_0, .string a0_1, .int .i64 a0_2] 32 (0, 0))) := ⟨h0_⟩
     have n1_ : Aside0 (w40.heap[gb417]? = some (.cells #[.string a1_0, .string a1_1] 44 (0, 0))) := ⟨h1_⟩
     have n2_ : Aside0 (w40.heap[gb429]? = some (.cells #[.string (⟨#[]⟩ : ByteArray), .string (⟨#[]⟩ : ByteArray), .int .i64 0] 34 (0, 0))) := ⟨h2_⟩
     have n3_ : Aside0 (w.heap.size ≤ gb429) := ⟨h3_⟩
     have n4_ : Aside0 (w.heap.size ≤ gb429) := ⟨h4_⟩
     have n5_ : Aside0 (gb416 ≠ gb429) := ⟨h5_⟩
     have n6_ : Aside0 (gb429 ≠ gb416) := ⟨h6_⟩
     have n7_ : Aside0 (gb417 ≠ gb429) := ⟨h7_⟩
     have n8_ : Aside0 (gb429 ≠ gb417) := ⟨h8_⟩
     have n9_ : Aside0 (Below w.heap.size w w40) := ⟨h9_⟩
     clear BK416
     clear BK417
     clear HB
     clear h0_ h1_ h2_ h3_ h4_ h5_ h6_ h7_ h8_ h9_
     have BK416 := n0_
     have BK417 := n1_
     have BK429 := n2_
     have GW429 := n3_
     have GE429 := n4_
     have NB416_429 := n5_
     have NB429_416 := n6_
     have NB417_429 := n7_
     have NB429_417 := n8_
     have HB := n9_
     clear n0_ n1_ n2_ n3_ n4_ n5_ n6_ n7_ n8_ n9_
     have hHeld : w40.cell? ⟨gb416, 0, none⟩ = some (.string a0_0) ∧ w40.cell? ⟨gb416, 1, none⟩ = some (.string a0_1) ∧ w40.cell? ⟨gb416, 2, none⟩ = some (.int .i64 a0_2) ∧ w40.cell? ⟨gb417, 0, none⟩ = some (.string a1_0) ∧ w40.cell? ⟨gb417, 1, none⟩ = some (.string a1_1) := hS_
     refine norm_ (a' := ?_) ?_ ?_
     rotate_left
     ·simp only [putAll, Act.put, List.setIfInBounds_toArray, List.set_cons_zero, List.set_cons_succ]
      rfl
     refine one_ (i := 9) (N := none) q6_16 rfl rfl (one_of HT_.out (by kernel_rfl)) (by decide) (fun K hK => ?_)
     have hs41 : w40.cell? ⟨gb429, 0, none⟩ = some (.string (⟨#[]⟩ : ByteArray)) := (blk_cell BK429.out 0).trans rfl
     have hfs41 := blk_frozen BK429.out 0
     have hns41_0 := NB416_429.out
     have hns41_1 := NB417_429.out
     have hms41_0 := NB429_416.out
     have hms41_1 := NB429_417.out
     have hs42 : w40.cell? ⟨gb429, 1, none⟩ = some (.string (⟨#[]⟩ : ByteArray)) := (blk_cell BK429.out 1).trans rfl
     have hfs42 := blk_frozen BK429.out 1
     have hns42_0 := NB416_429.out
     have hns42_1 := NB417_429.out
     have hms42_0 := NB429_416.out
     have hms42_1 := NB429_417.out
     have hs43 : w40.cell? ⟨gb429, 2, none⟩ = some (.int .i64 0) := (blk_cell BK429.out 2).trans rfl
     have hfs43 := blk_frozen BK429.out 2
     have hns43_0 := NB416_429.out
     have hns43_1 := NB417_429.out
     have hms43_0 := NB429_416.out
     have hms43_1 := NB429_417.out
     refine skip_ (w1 := ?_) (by rfl) rfl ?_ ?_
     rotate_left
     ·go_simp
      rfl
     refine hK.out _ _ ⟨((cell_far (p := ⟨gb429, _, none⟩) NB416_429.out _).trans (((cell_far (p := ⟨gb429, _, none⟩) NB416_429.out _).trans (((cell_far (p := ⟨gb429, _, none⟩) NB416_429.out _).trans (hHeld.1)))))), ((cell_far (p := ⟨gb429, _, none⟩) NB416_429.out _).trans (((cell_far (p := ⟨gb429, _, none⟩) NB416_429.out _).trans (((cell_far (p := ⟨gb429, _, none⟩) NB416_429.out _).trans (hHeld.2.1)))))), ((cell_far (p := ⟨gb429, _, none⟩) NB416_429.out _).trans (((cell_far (p := ⟨gb429, _, none⟩) NB416_429.out _).trans (((cell_far (p := ⟨gb429, _, none⟩) NB416_429.out _).trans (hHeld.2.2.1)))))), ((cell_far (p := ⟨gb429, _, none⟩) NB417_429.out _).trans (((cell_far (p := ⟨gb429, _, none⟩) NB417_429.out _).trans (((cell_far (p := ⟨gb429, _, none⟩) NB417_429.out _).trans (hHeld.2.2.2.1)))))), ((cell_far (p := ⟨gb429, _, none⟩) NB417_429.out _).trans (((cell_far (p := ⟨gb429, _, none⟩) NB417_429.out _).trans (((cell_far (p := ⟨gb429, _, none⟩) NB417_429.out _).trans (hHeld.2.2.2.2))))))⟩ (fun hHeld => ?_)
     clear hK K
     refine pup_ (i := 10) (N := some 7) (v := ?_) (a' := ?_) HT_ rfl rfl (by kernel_rfl) (fun _ _ _ h => h) (Or.inl ⟨by rfl, ?_⟩) ?_ ?_
     rotate_left
     ·intro w'
      go_simp
      with_reducible rfl
     rotate_left
     ·simp only [aq_]
      rfl
     refine done_ (done_of HT_.out (by kernel_rfl)) ?_
     try go_wp2
     have n0_ : Aside0 ((((w40.setCell ⟨gb429, 0, none⟩ (.string t425)).setCell ⟨gb429, 1, none⟩ (.string t426)).setCell ⟨gb429, 2, none⟩ (.int .i64 t427)).heap[gb416]? = some (.cells #[.string a0_0, .string a0_1, .int .i64 a0_2] 32 (0, 0))) := ⟨by (with_reducible repeat (first | refine blk_drewN ?_ _ | refine blk_drew ?_ | refine blk_alloc ?_ _)); refine blk_far ?_ NB416_429.out _; (with_reducible repeat (first | refine blk_drewN ?_ _ | refine blk_drew ?_ | refine blk_alloc ?_ _)); refine blk_far ?_ NB416_429.out _; (with_reducible repeat (first | refine blk_drewN ?_ _ | refine blk_drew ?_ | refine blk_alloc ?_ _)); refine blk_far ?_ NB416_429.out _; exact bs BK416.out⟩
     have n1_ : Aside0 ((((w40.setCell ⟨gb429, 0, none⟩ (.string t425)).setCell ⟨gb429, 1, none⟩ (.string t426)).setCell ⟨gb429, 2, none⟩ (.int .i64 t427)).heap[gb417]? = some (.cells #[.string a1_0, .string a1_1] 44 (0, 0))) := ⟨by (with_reducible repeat (first | refine blk_drewN ?_ _ | refine blk_drew ?_ | refine blk_alloc ?_ _)); refine blk_far ?_ NB417_429.out _; (with_reducible repeat (first | refine blk_drewN ?_ _ | refine blk_drew ?_ | refine blk_alloc ?_ _)); refine blk_far ?_ NB417_429.out _; (with_reducible repeat (first | refine blk_drewN ?_ _ | refine blk_drew ?_ | refine blk_alloc ?_ _)); refine blk_far ?_ NB417_429.out _; exact bs BK417.out⟩
     have n2_ : Aside0 ((((w40.setCell ⟨gb429, 0, none⟩ (.string t425)).setCell ⟨gb429, 1, none⟩ (.string t426)).setCell ⟨gb429, 2, none⟩ (.int .i64 t427)).heap[gb429]? = some (.cells #[.string t425, .string t426, .int .i64 t427] 34 (0, 0))) := ⟨by (with_reducible repeat (first | refine blk_drewN ?_ _ | refine blk_drew ?_ | refine blk_alloc ?_ _)); refine blk_put (cs := #[.string t425, .string t426, .int .i64 0]) ?_ 2 _ rfl; (with_reducible repeat (first | refine blk_drewN ?_ _ | refine blk_drew ?_ | refine blk_alloc ?_ _)); refine blk_put (cs := #[.string t425, .string (⟨#[]⟩ : ByteArray), .int .i64 0]) ?_ 1 _ rfl; (with_reducible repeat (first | refine blk_drewN ?_ _ | refine blk_drew ?_ | refine blk_alloc ?_ _)); refine blk_put (cs := #[.string (⟨#[]⟩ : ByteArray), .string (⟨#[]⟩ : ByteArray), .int .i64 0]) ?_ 0 _ rfl; exact bs BK429.out⟩
     have n3_ : Aside0 (Below w.heap.size w (((w40.setCell ⟨gb429, 0, none⟩ (.string t425)).setCell ⟨gb429, 1, none⟩ (.string t426)).setCell ⟨gb429, 2, none⟩ (.int .i64 t427))) := ⟨by repeat (first | (with_reducible first | exact bw HB.out | refine bset ?_ (by assumption) | apply below_alloc | apply pw_below_drewN | apply below_drew1) | exact HB.out)⟩
     (try clear BK416)
     (try clear BK417)
     (try clear BK429)
     (try clear HB)
     (try simp only [setCell_drewN])
     generalize (((w40.setCell ⟨gb429, 0, none⟩ (.string t425)).setCell ⟨gb429, 1, none⟩ (.string t426)).setCell ⟨gb429, 2, none⟩ (.int .i64 t427)) = w44 at n0_ n1_ n2_ n3_ ⊢
     have BK416 := n0_
     have BK417 := n1_
     have BK429 := n2_
     have HB := n3_
     clear n0_ n1_ n2_ n3_
     have n0_ := Aside0.mk (blk_drew BK416.out)
     have n1_ := Aside0.mk (blk_drew BK417.out)
     have n2_ := Aside0.mk (blk_drew BK429.out)
     have n3_ := Aside0.mk (below_drew1 HB.out)
     clear BK416
     clear BK417
     clear BK429
     clear HB
     have BK416 := n0_
     have BK417 := n1_
     have BK429 := n2_
     have HB := n3_
     clear n0_ n1_ n2_ n3_
     refine start_ (n := 11) (S := fun w' => w'.cell? ⟨gb416, 0, none⟩ = some (.string a0_0) ∧ w'.cell? ⟨gb416, 1, none⟩ = some (.string a0_1) ∧ w'.cell? ⟨gb416, 2, none⟩ = some (.int .i64 a0_2) ∧ w'.cell? ⟨gb417, 0, none⟩ = some (.string a1_0) ∧ w'.cell? ⟨gb417, 1, none⟩ = some (.string a1_1)) (ds := []) q6_0 (by kernel_rfl) rfl rfl ⟨(blk_cell BK416.out 0).trans rfl, (blk_cell BK416.out 1).trans rfl, (blk_cell BK416.out 2).trans rfl, (blk_cell BK417.out 0).trans rfl, (blk_cell BK417.out 1).trans rfl⟩ (fun hHeld => ?_); refine with_tabW laws_FnExactAppendRecord.tab9 laws_FnExactAppendRecord.bits9 (fun HT_ HW_ => ?_)
     generalize w44.drew = w45 at BK416 BK417 BK429 HB hHeld ⊢
     refine take_ (i := 0) (N := some 29) (v := ?_) (a' := ?_) q6_1 rfl rfl (take_ofW HT_.out HW_.out (by kernel_rfl)) (fun _ _ _ h => h) (Or.inl ⟨by rfl, ?_⟩) hHeld ?_ ?_
     rotate_left
     ·rintro w' ⟨s0, s1, s2, s3, s4⟩
      go_simp
      with_reducible rfl
     rotate_left
     ·simp only [aq_]
      rfl
     refine take_ (i := 2) (N := some 31) (v := ?_) (a' := ?_) q6_2 rfl rfl (take_ofW HT_.out HW_.out (by kernel_rfl)) (fun _ _ _ h => h) (Or.inl ⟨by rfl, ?_⟩) hHeld ?_ ?_
     rotate_left
     ·rintro w' ⟨s0, s1, s2, s3, s4⟩
      go_simp
      with_reducible rfl
     rotate_left
     ·simp only [aq_]
      rfl
     refine join_ (σ := Nat) 2 q6_3 (fun s_ => [(30, .agg #[.string t430, .string t431, .int .i64 t432]), (32, .agg #[.string t433, .string t434]), (33, .tuple #[.agg #[.string t435, .string t436, .int .i64 t437], .int .i64 t438]), (8, .pointer (some ⟨s_, 0, none⟩)), (28, .tuple #[.agg #[.string t435, .string t436, .int .i64 t437], .int .i64 t438]), (34, .agg #[.string t435, .string t436, .int .i64 t437]), (35, .int .i64 t438)]) (fun s_ w' => (w'.cell? ⟨gb416, 0, none⟩ = some (.string a0_0) ∧ w'.cell? ⟨gb416, 1, none⟩ = some (.string a0_1) ∧ w'.cell? ⟨gb416, 2, none⟩ = some (.int .i64 a0_2) ∧ w'.cell? ⟨gb417, 0, none⟩ = some (.string a1_0) ∧ w'.cell? ⟨gb417, 1, none⟩ = some (.string a1_1)) ∧ (w'.heap[gb416]? = some (.cells #[.string a0_0, .string a0_1, .int .i64 a0_2] 32 (0, 0))) ∧ (w'.heap[gb417]? = some (.cells #[.string a1_0, .string a1_1] 44 (0, 0))) ∧ (w'.heap[gb429]? = some (.cells #[.string t425, .string t426, .int .i64 t427] 34 (0, 0))) ∧ (w'.heap[s_]? = some (.cells #[.string (⟨#[]⟩ : ByteArray), .string (⟨#[]⟩ : ByteArray), .int .i64 0] 34 (0, 0))) ∧ (w.heap.size ≤ s_) ∧ (w.heap.size ≤ s_) ∧ (gb416 ≠ s_) ∧ (s_ ≠ gb416) ∧ (gb417 ≠ s_) ∧ (s_ ≠ gb417) ∧ (gb429 ≠ s_) ∧ (s_ ≠ gb429) ∧ (Below w.heap.size w w')) ?_ ?_
     rotate_left
     ·intro hCont
      refine two_ (i := 1) (j := 8) (Ni := some 30) (Nj := some 8) q6_4 q6_5 rfl rfl rfl rfl (two_of HT_.out (by kernel_rfl)) (by decide) (by decide) (fun K hK => ?_) (fun K hK => ?_)
      ·skip
       refine goes_ Try.func23 (by kernel_rfl) rfl #[.agg #[.string a0_0, .string a0_1, .int .i64 a0_2]] (by rfl) rfl rfl (by (try simp only [mA_]); first | done | rfl | (simp only [List.length_drop, List.length_take]; rfl)) ?_
       with_reducible refine (laws_toLog.calls a0_0 a0_1 a0_2 t430 t431 t432 _ A22.out).mono ?_
       rintro e w46 ⟨rfl, hb⟩
       refine ⟨_, rfl, ?_⟩
       have n0_ := Aside0.mk (blk_below (bs BK416.out) hb)
       have n1_ := Aside0.mk (blk_below (bs BK417.out) hb)
       have n2_ := Aside0.mk (blk_below (bs BK429.out) hb)
       have n3_ := Aside0.mk (below_step (by repeat (first | (with_reducible first | exact bw HB.out | refine bset ?_ (by assumption) | apply below_alloc | apply pw_below_drewN | apply below_drew1) | exact HB.out)) hb)
       clear BK416
       clear BK417
       clear BK429
       clear HB
       have BK416 := n0_
       have BK417 := n1_
       have BK429 := n2_
       have HB := n3_
       clear n0_ n1_ n2_ n3_
       (try clear hb)
       (try clear hb2)
       (try clear hk)
       (try clear hi)
       refine hK.out _ _ ⟨(blk_cell BK416.out 0).trans rfl, (blk_cell BK416.out 1).trans rfl, (blk_cell BK416.out 2).trans rfl, (blk_cell BK417.out 0).trans rfl, (blk_cell BK417.out 1).trans rfl⟩ (fun hHeld => ?_)
       clear hK K
       refine norm_ (a' := ?_) ?_ ?_
       rotate_left
       ·show Act.put _ (some 30) _ = _
        simp only [aq_]
        rfl
       refine two_ (i := 3) (j := 8) (Ni := some 32) (Nj := some 8) q6_6 q6_7 rfl rfl rfl rfl (two_of HT_.out (by kernel_rfl)) (by decide) (by decide) (fun K hK => ?_) (fun K hK => ?_)
       ·skip
        refine goes_ Try.func30 (by kernel_rfl) rfl #[.agg #[.string a1_0, .string a1_1]] (by rfl) rfl rfl (by (try simp only [mA_]); first | done | rfl | (simp only [List.length_drop, List.length_take]; rfl)) ?_
        with_reducible refine (laws_toLogRecord.calls a1_0 a1_1 t433 t434 _ A23.out).mono ?_
        rintro e w47 ⟨rfl, hb⟩
        refine ⟨_, rfl, ?_⟩
        have n0_ := Aside0.mk (blk_below (bs BK416.out) hb)
        have n1_ := Aside0.mk (blk_below (bs BK417.out) hb)
        have n2_ := Aside0.mk (blk_below (bs BK429.out) hb)
        have n3_ := Aside0.mk (below_step (by repeat (first | (with_reducible first | exact bw HB.out | refine bset ?_ (by assumption) | apply below_alloc | apply pw_below_drewN | apply below_drew1) | exact HB.out)) hb)
        clear BK416
        clear BK417
        clear BK429
        clear HB
        have BK416 := n0_
        have BK417 := n1_
        have BK429 := n2_
        have HB := n3_
        clear n0_ n1_ n2_ n3_
        (try clear hb)
        (try clear hb2)
        (try clear hk)
        (try clear hi)
        refine hK.out _ _ ⟨(blk_cell BK416.out 0).trans rfl, (blk_cell BK416.out 1).trans rfl, (blk_cell BK416.out 2).trans rfl, (blk_cell BK417.out 0).trans rfl, (blk_cell BK417.out 1).trans rfl⟩ (fun hHeld => ?_)
        clear hK K
        refine norm_ (a' := ?_) ?_ ?_
        rotate_left
        ·show Act.put _ (some 32) _ = _
         simp only [aq_]
         rfl
        refine two_ (i := 4) (j := 8) (Ni := some 33) (Nj := some 8) q6_8 q6_9 rfl rfl rfl rfl (two_of HT_.out (by kernel_rfl)) (by decide) (by decide) (fun K hK => ?_) (fun K hK => ?_)
        ·skip
         refine goes_ Try.func31 (by kernel_rfl) rfl #[.agg #[.string t430, .string t431, .int .i64 t432], .agg #[.string t433, .string t434]] (by rfl) rfl rfl (by (try simp only [mA_]); first | done | rfl | (simp only [List.length_drop, List.length_take]; rfl)) ?_
         with_reducible refine (impl_AppendRecord.calls k t430 t431 t432 t433 t434 t435 t436 t437 t438 _ A24.out).mono ?_
         rintro e w48 ⟨rfl, hb⟩
         refine ⟨_, rfl, ?_⟩
         have n0_ := Aside0.mk (blk_below (bs BK416.out) hb)
         have n1_ := Aside0.mk (blk_below (bs BK417.out) hb)
         have n2_ := Aside0.mk (blk_below (bs BK429.out) hb)
         have n3_ := Aside0.mk (below_step (by repeat (first | (with_reducible first | exact bw HB.out | refine bset ?_ (by assumption) | apply below_alloc | apply pw_below_drewN | apply below_drew1) | exact HB.out)) hb)
         clear BK416
         clear BK417
         clear BK429
         clear HB
         have BK416 := n0_
         have BK417 := n1_
         have BK429 := n2_
         have HB := n3_
         clear n0_ n1_ n2_ n3_
         (try clear hb)
         (try clear hb2)
         (try clear hk)
         (try clear hi)
         refine hK.out _ _ ⟨(blk_cell BK416.out 0).trans rfl, (blk_cell BK416.out 1).trans rfl, (blk_cell BK416.out 2).trans rfl, (blk_cell BK417.out 0).trans rfl, (blk_cell BK417.out 1).trans rfl⟩ (fun hHeld => ?_)
         clear hK K
         refine norm_ (a' := ?_) ?_ ?_
         rotate_left
         ·show Act.put _ (some 33) _ = _
          simp only [aq_]
          rfl
         refine pup_ (i := 5) (N := some 28) (v := ?_) (a' := ?_) HT_ rfl rfl (by kernel_rfl) (fun _ _ _ h => h) (Or.inl ⟨by rfl, ?_⟩) ?_ ?_
         rotate_left
         ·intro w'
          go_simp
          with_reducible rfl
         rotate_left
         ·simp only [aq_]
          rfl
         refine pup_ (i := 6) (N := some 34) (v := ?_) (a' := ?_) HT_ rfl rfl (by kernel_rfl) (fun _ _ _ h => h) (Or.inl ⟨by rfl, ?_⟩) ?_ ?_
         rotate_left
         ·intro w'
          go_simp
          with_reducible rfl
         rotate_left
         ·simp only [aq_]
          rfl
         refine pup_ (i := 7) (N := some 35) (v := ?_) (a' := ?_) HT_ rfl rfl (by kernel_rfl) (fun _ _ _ h => h) (Or.inl ⟨by rfl, ?_⟩) ?_ ?_
         rotate_left
         ·intro w'
          go_simp
          with_reducible rfl
         rotate_left
         ·simp only [aq_]
          rfl
         refine one_ (i := 8) (N := some 8) q6_3 rfl rfl (one_of HT_.out (by kernel_rfl)) (by decide) (fun K hK => ?_)
         refine box_step ?hg (N := 8) ?hd (cs := #[.string (⟨#[]⟩ : ByteArray), .string (⟨#[]⟩ : ByteArray), .int .i64 0]) (t := 34) ?hr ?_; (case hd => rfl); (case hg => rfl); (case hr => first | (go_simp; done) | (go_simp; rfl))
         intro gb439 hg w49 hbox hb
         have n0_ := Aside0.mk (blk_below (bs BK416.out) hb)
         have n1_ := Aside0.mk (blk_below (bs BK417.out) hb)
         have n2_ := Aside0.mk (blk_below (bs BK429.out) hb)
         have n3_ := Aside0.mk (below_step (by repeat (first | (with_reducible first | exact bw HB.out | refine bset ?_ (by assumption) | apply below_alloc | apply pw_below_drewN | apply below_drew1) | exact HB.out)) hb)
         have n4_ := Aside0.mk (hbox)
         have n5_ := Aside0.mk ((by rw [hg]; exact (below_size (by repeat (first | (with_reducible first | exact bw HB.out | refine bset ?_ (by assumption) | apply below_alloc | apply pw_below_drewN | apply below_drew1) | exact HB.out))) : w.heap.size ≤ gb439))
         have n6_ := Aside0.mk ((by rw [hg]; exact (below_size (by repeat (first | (with_reducible first | exact bw HB.out | refine bset ?_ (by assumption) | apply below_alloc | apply pw_below_drewN | apply below_drew1) | exact HB.out))) : w.heap.size ≤ gb439))
         have n7_ := ne_ hg BK416.out
         have n8_ := en_ hg BK416.out
         have n9_ := ne_ hg BK417.out
         have n10_ := en_ hg BK417.out
         have n11_ := ne_ hg BK429.out
         have n12_ := en_ hg BK429.out
         clear BK416
         clear BK417
         clear BK429
         clear HB
         have BK416 := n0_
         have BK417 := n1_
         have BK429 := n2_
         have HB := n3_
         have BK439 := n4_
         have GW439 := n5_
         have GE439 := n6_
         have NB416_439 := n7_
         have NB439_416 := n8_
         have NB417_439 := n9_
         have NB439_417 := n10_
         have NB429_439 := n11_
         have NB439_429 := n12_
         clear n0_ n1_ n2_ n3_ n4_ n5_ n6_ n7_ n8_ n9_ n10_ n11_ n12_
         clear hb hbox hg
         refine hK.out _ _ ⟨(blk_cell BK416.out 0).trans rfl, (blk_cell BK416.out 1).trans rfl, (blk_cell BK416.out 2).trans rfl, (blk_cell BK417.out 0).trans rfl, (blk_cell BK417.out 1).trans rfl⟩ (fun hHeld => ?_)
         clear hK K
         refine norm_ (a' := ?_) ?_ ?_
         rotate_left
         ·show Act.put _ (some 8) _ = _
          simp only [aq_]
          rfl
         exact norm_ (by simp only [putAll, Act.put, List.setIfInBounds_toArray, List.set_cons_zero, List.set_cons_succ]) (hCont (gb439) _ ⟨hHeld, (bs BK416.out), (bs BK417.out), (bs BK429.out), (bs BK439.out), GW439.out, GE439.out, NB416_439.out, NB439_416.out, NB417_439.out, NB439_417.out, NB429_439.out, NB439_429.out, (by repeat (first | (with_reducible first | exact bw HB.out | refine bset ?_ (by assumption) | apply below_alloc | apply pw_below_drewN | apply below_drew1) | exact HB.out))⟩)
        ·skip
         refine box_step ?hg (N := 8) ?hd (cs := #[.string (⟨#[]⟩ : ByteArray), .string (⟨#[]⟩ : ByteArray), .int .i64 0]) (t := 34) ?hr ?_; (case hd => rfl); (case hg => rfl); (case hr => first | (go_simp; done) | (go_simp; rfl))
         intro gb439 hg w48 hbox hb
         have n0_ := Aside0.mk (blk_below (bs BK416.out) hb)
         have n1_ := Aside0.mk (blk_below (bs BK417.out) hb)
         have n2_ := Aside0.mk (blk_below (bs BK429.out) hb)
         have n3_ := Aside0.mk (below_step (by repeat (first | (with_reducible first | exact bw HB.out | refine bset ?_ (by assumption) | apply below_alloc | apply pw_below_drewN | apply below_drew1) | exact HB.out)) hb)
         have n4_ := Aside0.mk (hbox)
         have n5_ := Aside0.mk ((by rw [hg]; exact (below_size (by repeat (first | (with_reducible first | exact bw HB.out | refine bset ?_ (by assumption) | apply below_alloc | apply pw_below_drewN | apply below_drew1) | exact HB.out))) : w.heap.size ≤ gb439))
         have n6_ := Aside0.mk ((by rw [hg]; exact (below_size (by repeat (first | (with_reducible first | exact bw HB.out | refine bset ?_ (by assumption) | apply below_alloc | apply pw_below_drewN | apply below_drew1) | exact HB.out))) : w.heap.size ≤ gb439))
         have n7_ := ne_ hg BK416.out
         have n8_ := en_ hg BK416.out
         have n9_ := ne_ hg BK417.out
         have n10_ := en_ hg BK417.out
         have n11_ := ne_ hg BK429.out
         have n12_ := en_ hg BK429.out
         clear BK416
         clear BK417
         clear BK429
         clear HB
         have BK416 := n0_
         have BK417 := n1_
         have BK429 := n2_
         have HB := n3_
         have BK439 := n4_
         have GW439 := n5_
         have GE439 := n6_
         have NB416_439 := n7_
         have NB439_416 := n8_
         have NB417_439 := n9_
         have NB439_417 := n10_
         have NB429_439 := n11_
         have NB439_429 := n12_
         clear n0_ n1_ n2_ n3_ n4_ n5_ n6_ n7_ n8_ n9_ n10_ n11_ n12_
         clear hb hbox hg
         refine hK.out _ _ ⟨(blk_cell BK416.out 0).trans rfl, (blk_cell BK416.out 1).trans rfl, (blk_cell BK416.out 2).trans rfl, (blk_cell BK417.out 0).trans rfl, (blk_cell BK417.out 1).trans rfl⟩ (fun hHeld => ?_)
         clear hK K
         refine norm_ (a' := ?_) ?_ ?_
         rotate_left
         ·show Act.put _ (some 8) _ = _
          simp only [aq_]
          rfl
         refine one_ (i := 4) (N := some 33) q6_13 rfl rfl (one_of HT_.out (by kernel_rfl)) (by decide) (fun K hK => ?_)
         refine goes_ Try.func31 (by kernel_rfl) rfl #[.agg #[.string t430, .string t431, .int .i64 t432], .agg #[.string t433, .string t434]] (by rfl) rfl rfl (by (try simp only [mA_]); first | done | rfl | (simp only [List.length_drop, List.length_take]; rfl)) ?_
         with_reducible refine (impl_AppendRecord.calls k t430 t431 t432 t433 t434 t435 t436 t437 t438 _ A24.out).mono ?_
         rintro e w49 ⟨rfl, hb⟩
         refine ⟨_, rfl, ?_⟩
         have n0_ := Aside0.mk (blk_below (bs BK416.out) hb)
         have n1_ := Aside0.mk (blk_below (bs BK417.out) hb)
         have n2_ := Aside0.mk (blk_below (bs BK429.out) hb)
         have n3_ := Aside0.mk (blk_below (bs BK439.out) hb)
         have n4_ := Aside0.mk (below_step (by repeat (first | (with_reducible first | exact bw HB.out | refine bset ?_ (by assumption) | apply below_alloc | apply pw_below_drewN | apply below_drew1) | exact HB.out)) hb)
         clear BK416
         clear BK417
         clear BK429
         clear BK439
         clear HB
         have BK416 := n0_
         have BK417 := n1_
         have BK429 := n2_
         have BK439 := n3_
         have HB := n4_
         clear n0_ n1_ n2_ n3_ n4_
         (try clear hb)
         (try clear hb2)
         (try clear hk)
         (try clear hi)
         refine hK.out _ _ ⟨(blk_cell BK416.out 0).trans rfl, (blk_cell BK416.out 1).trans rfl, (blk_cell BK416.out 2).trans rfl, (blk_cell BK417.out 0).trans rfl, (blk_cell BK417.out 1).trans rfl⟩ (fun hHeld => ?_)
         clear hK K
         refine norm_ (a' := ?_) ?_ ?_
         rotate_left
         ·show Act.put _ (some 33) _ = _
          simp only [aq_]
          rfl
         refine pup_ (i := 5) (N := some 28) (v := ?_) (a' := ?_) HT_ rfl rfl (by kernel_rfl) (fun _ _ _ h => h) (Or.inl ⟨by rfl, ?_⟩) ?_ ?_
         rotate_left
         ·intro w'
          go_simp
          with_reducible rfl
         rotate_left
         ·simp only [aq_]
          rfl
         refine pup_ (i := 6) (N := some 34) (v := ?_) (a' := ?_) HT_ rfl rfl (by kernel_rfl) (fun _ _ _ h => h) (Or.inl ⟨by rfl, ?_⟩) ?_ ?_
         rotate_left
         ·intro w'
          go_simp
          with_reducible rfl
         rotate_left
         ·simp only [aq_]
          rfl
         refine pup_ (i := 7) (N := some 35) (v := ?_) (a' := ?_) HT_ rfl rfl (by kernel_rfl) (fun _ _ _ h => h) (Or.inl ⟨by rfl, ?_⟩) ?_ ?_
         rotate_left
         ·intro w'
          go_simp
          with_reducible rfl
         rotate_left
         ·simp only [aq_]
          rfl
         exact norm_ (by simp only [putAll, Act.put, List.setIfInBounds_toArray, List.set_cons_zero, List.set_cons_succ]) (hCont (gb439) _ ⟨hHeld, (bs BK416.out), (bs BK417.out), (bs BK429.out), (bs BK439.out), GW439.out, GE439.out, NB416_439.out, NB439_416.out, NB417_439.out, NB439_417.out, NB429_439.out, NB439_429.out, (by repeat (first | (with_reducible first | exact bw HB.out | refine bset ?_ (by assumption) | apply below_alloc | apply pw_below_drewN | apply below_drew1) | exact HB.out))⟩)
       ·skip
        refine box_step ?hg (N := 8) ?hd (cs := #[.string (⟨#[]⟩ : ByteArray), .string (⟨#[]⟩ : ByteArray), .int .i64 0]) (t := 34) ?hr ?_; (case hd => rfl); (case hg => rfl); (case hr => first | (go_simp; done) | (go_simp; rfl))
        intro gb439 hg w47 hbox hb
        have n0_ := Aside0.mk (blk_below (bs BK416.out) hb)
        have n1_ := Aside0.mk (blk_below (bs BK417.out) hb)
        have n2_ := Aside0.mk (blk_below (bs BK429.out) hb)
        have n3_ := Aside0.mk (below_step (by repeat (first | (with_reducible first | exact bw HB.out | refine bset ?_ (by assumption) | apply below_alloc | apply pw_below_drewN | apply below_drew1) | exact HB.out)) hb)
        have n4_ := Aside0.mk (hbox)
        have n5_ := Aside0.mk ((by rw [hg]; exact (below_size (by repeat (first | (with_reducible first | exact bw HB.out | refine bset ?_ (by assumption) | apply below_alloc | apply pw_below_drewN | apply below_drew1) | exact HB.out))) : w.heap.size ≤ gb439))
        have n6_ := Aside0.mk ((by rw [hg]; exact (below_size (by repeat (first | (with_reducible first | exact bw HB.out | refine bset ?_ (by assumption) | apply below_alloc | apply pw_below_drewN | apply below_drew1) | exact HB.out))) : w.heap.size ≤ gb439))
        have n7_ := ne_ hg BK416.out
        have n8_ := en_ hg BK416.out
        have n9_ := ne_ hg BK417.out
        have n10_ := en_ hg BK417.out
        have n11_ := ne_ hg BK429.out
        have n12_ := en_ hg BK429.out
        clear BK416
        clear BK417
        clear BK429
        clear HB
        have BK416 := n0_
        have BK417 := n1_
        have BK429 := n2_
        have HB := n3_
        have BK439 := n4_
        have GW439 := n5_
        have GE439 := n6_
        have NB416_439 := n7_
        have NB439_416 := n8_
        have NB417_439 := n9_
        have NB439_417 := n10_
        have NB429_439 := n11_
        have NB439_429 := n12_
        clear n0_ n1_ n2_ n3_ n4_ n5_ n6_ n7_ n8_ n9_ n10_ n11_ n12_
        clear hb hbox hg
        refine hK.out _ _ ⟨(blk_cell BK416.out 0).trans rfl, (blk_cell BK416.out 1).trans rfl, (blk_cell BK416.out 2).trans rfl, (blk_cell BK417.out 0).trans rfl, (blk_cell BK417.out 1).trans rfl⟩ (fun hHeld => ?_)
        clear hK K
        refine norm_ (a' := ?_) ?_ ?_
        rotate_left
        ·show Act.put _ (some 8) _ = _
         simp only [aq_]
         rfl
        refine one_ (i := 3) (N := some 32) q6_9 rfl rfl (one_of HT_.out (by kernel_rfl)) (by decide) (fun K hK => ?_)
        refine goes_ Try.func30 (by kernel_rfl) rfl #[.agg #[.string a1_0, .string a1_1]] (by rfl) rfl rfl (by (try simp only [mA_]); first | done | rfl | (simp only [List.length_drop, List.length_take]; rfl)) ?_
        with_reducible refine (laws_toLogRecord.calls a1_0 a1_1 t433 t434 _ A23.out).mono ?_
        rintro e w48 ⟨rfl, hb⟩
        refine ⟨_, rfl, ?_⟩
        have n0_ := Aside0.mk (blk_below (bs BK416.out) hb)
        have n1_ := Aside0.mk (blk_below (bs BK417.out) hb)
        have n2_ := Aside0.mk (blk_below (bs BK429.out) hb)
        have n3_ := Aside0.mk (blk_below (bs BK439.out) hb)
        have n4_ := Aside0.mk (below_step (by repeat (first | (with_reducible first | exact bw HB.out | refine bset ?_ (by assumption) | apply below_alloc | apply pw_below_drewN | apply below_drew1) | exact HB.out)) hb)
        clear BK416
        clear BK417
        clear BK429
        clear BK439
        clear HB
        have BK416 := n0_
        have BK417 := n1_
        have BK429 := n2_
        have BK439 := n3_
        have HB := n4_
        clear n0_ n1_ n2_ n3_ n4_
        (try clear hb)
        (try clear hb2)
        (try clear hk)
        (try clear hi)
        refine hK.out _ _ ⟨(blk_cell BK416.out 0).trans rfl, (blk_cell BK416.out 1).trans rfl, (blk_cell BK416.out 2).trans rfl, (blk_cell BK417.out 0).trans rfl, (blk_cell BK417.out 1).trans rfl⟩ (fun hHeld => ?_)
        clear hK K
        refine norm_ (a' := ?_) ?_ ?_
        rotate_left
        ·show Act.put _ (some 32) _ = _
         simp only [aq_]
         rfl
        refine one_ (i := 4) (N := some 33) q6_13 rfl rfl (one_of HT_.out (by kernel_rfl)) (by decide) (fun K hK => ?_)
        refine goes_ Try.func31 (by kernel_rfl) rfl #[.agg #[.string t430, .string t431, .int .i64 t432], .agg #[.string t433, .string t434]] (by rfl) rfl rfl (by (try simp only [mA_]); first | done | rfl | (simp only [List.length_drop, List.length_take]; rfl)) ?_
        with_reducible refine (impl_AppendRecord.calls k t430 t431 t432 t433 t434 t435 t436 t437 t438 _ A24.out).mono ?_
        rintro e w49 ⟨rfl, hb⟩
        refine ⟨_, rfl, ?_⟩
        have n0_ := Aside0.mk (blk_below (bs BK416.out) hb)
        have n1_ := Aside0.mk (blk_below (bs BK417.out) hb)
        have n2_ := Aside0.mk (blk_below (bs BK429.out) hb)
        have n3_ := Aside0.mk (blk_below (bs BK439.out) hb)
        have n4_ := Aside0.mk (below_step (by repeat (first | (with_reducible first | exact bw HB.out | refine bset ?_ (by assumption) | apply below_alloc | apply pw_below_drewN | apply below_drew1) | exact HB.out)) hb)
        clear BK416
        clear BK417
        clear BK429
        clear BK439
        clear HB
        have BK416 := n0_
        have BK417 := n1_
        have BK429 := n2_
        have BK439 := n3_
        have HB := n4_
        clear n0_ n1_ n2_ n3_ n4_
        (try clear hb)
        (try clear hb2)
        (try clear hk)
        (try clear hi)
        refine hK.out _ _ ⟨(blk_cell BK416.out 0).trans rfl, (blk_cell BK416.out 1).trans rfl, (blk_cell BK416.out 2).trans rfl, (blk_cell BK417.out 0).trans rfl, (blk_cell BK417.out 1).trans rfl⟩ (fun hHeld => ?_)
        clear hK K
        refine norm_ (a' := ?_) ?_ ?_
        rotate_left
        ·show Act.put _ (some 33) _ = _
         simp only [aq_]
         rfl
        refine pup_ (i := 5) (N := some 28) (v := ?_) (a' := ?_) HT_ rfl rfl (by kernel_rfl) (fun _ _ _ h => h) (Or.inl ⟨by rfl, ?_⟩) ?_ ?_
        rotate_left
        ·intro w'
         go_simp
         with_reducible rfl
        rotate_left
        ·simp only [aq_]
         rfl
        refine pup_ (i := 6) (N := some 34) (v := ?_) (a' := ?_) HT_ rfl rfl (by kernel_rfl) (fun _ _ _ h => h) (Or.inl ⟨by rfl, ?_⟩) ?_ ?_
        rotate_left
        ·intro w'
         go_simp
         with_reducible rfl
        rotate_left
        ·simp only [aq_]
         rfl
        refine pup_ (i := 7) (N := some 35) (v := ?_) (a' := ?_) HT_ rfl rfl (by kernel_rfl) (fun _ _ _ h => h) (Or.inl ⟨by rfl, ?_⟩) ?_ ?_
        rotate_left
        ·intro w'
         go_simp
         with_reducible rfl
        rotate_left
        ·simp only [aq_]
         rfl
        exact norm_ (by simp only [putAll, Act.put, List.setIfInBounds_toArray, List.set_cons_zero, List.set_cons_succ]) (hCont (gb439) _ ⟨hHeld, (bs BK416.out), (bs BK417.out), (bs BK429.out), (bs BK439.out), GW439.out, GE439.out, NB416_439.out, NB439_416.out, NB417_439.out, NB439_417.out, NB429_439.out, NB439_429.out, (by repeat (first | (with_reducible first | exact bw HB.out | refine bset ?_ (by assumption) | apply below_alloc | apply pw_below_drewN | apply below_drew1) | exact HB.out))⟩)
      ·skip
       refine box_step ?hg (N := 8) ?hd (cs := #[.string (⟨#[]⟩ : ByteArray), .string (⟨#[]⟩ : ByteArray), .int .i64 0]) (t := 34) ?hr ?_; (case hd => rfl); (case hg => rfl); (case hr => first | (go_simp; done) | (go_simp; rfl))
       intro gb439 hg w46 hbox hb
       have n0_ := Aside0.mk (blk_below (bs BK416.out) hb)
       have n1_ := Aside0.mk (blk_below (bs BK417.out) hb)
       have n2_ := Aside0.mk (blk_below (bs BK429.out) hb)
       have n3_ := Aside0.mk (below_step (by repeat (first | (with_reducible first | exact bw HB.out | refine bset ?_ (by assumption) | apply below_alloc | apply pw_below_drewN | apply below_drew1) | exact HB.out)) hb)
       have n4_ := Aside0.mk (hbox)
       have n5_ := Aside0.mk ((by rw [hg]; exact (below_size (by repeat (first | (with_reducible first | exact bw HB.out | refine bset ?_ (by assumption) | apply below_alloc | apply pw_below_drewN | apply below_drew1) | exact HB.out))) : w.heap.size ≤ gb439))
       have n6_ := Aside0.mk ((by rw [hg]; exact (below_size (by repeat (first | (with_reducible first | exact bw HB.out | refine bset ?_ (by assumption) | apply below_alloc | apply pw_below_drewN | apply below_drew1) | exact HB.out))) : w.heap.size ≤ gb439))
       have n7_ := ne_ hg BK416.out
       have n8_ := en_ hg BK416.out
       have n9_ := ne_ hg BK417.out
       have n10_ := en_ hg BK417.out
       have n11_ := ne_ hg BK429.out
       have n12_ := en_ hg BK429.out
       clear BK416
       clear BK417
       clear BK429
       clear HB
       have BK416 := n0_
       have BK417 := n1_
       have BK429 := n2_
       have HB := n3_
       have BK439 := n4_
       have GW439 := n5_
       have GE439 := n6_
       have NB416_439 := n7_
       have NB439_416 := n8_
       have NB417_439 := n9_
       have NB439_417 := n10_
       have NB429_439 := n11_
       have NB439_429 := n12_
       clear n0_ n1_ n2_ n3_ n4_ n5_ n6_ n7_ n8_ n9_ n10_ n11_ n12_
       clear hb hbox hg
       refine hK.out _ _ ⟨(blk_cell BK416.out 0).trans rfl, (blk_cell BK416.out 1).trans rfl, (blk_cell BK416.out 2).trans rfl, (blk_cell BK417.out 0).trans rfl, (blk_cell BK417.out 1).trans rfl⟩ (fun hHeld => ?_)
       clear hK K
       refine norm_ (a' := ?_) ?_ ?_
       rotate_left
       ·show Act.put _ (some 8) _ = _
        simp only [aq_]
        rfl
       refine one_ (i := 1) (N := some 30) q6_7 rfl rfl (one_of HT_.out (by kernel_rfl)) (by decide) (fun K hK => ?_)
       refine goes_ Try.func23 (by kernel_rfl) rfl #[.agg #[.string a0_0, .string a0_1, .int .i64 a0_2]] (by rfl) rfl rfl (by (try simp only [mA_]); first | done | rfl | (simp only [List.length_drop, List.length_take]; rfl)) ?_
       with_reducible refine (laws_toLog.calls a0_0 a0_1 a0_2 t430 t431 t432 _ A22.out).mono ?_
       rintro e w47 ⟨rfl, hb⟩
       refine ⟨_, rfl, ?_⟩
       have n0_ := Aside0.mk (blk_below (bs BK416.out) hb)
       have n1_ := Aside0.mk (blk_below (bs BK417.out) hb)
       have n2_ := Aside0.mk (blk_below (bs BK429.out) hb)
       have n3_ := Aside0.mk (blk_below (bs BK439.out) hb)
       have n4_ := Aside0.mk (below_step (by repeat (first | (with_reducible first | exact bw HB.out | refine bset ?_ (by assumption) | apply below_alloc | apply pw_below_drewN | apply below_drew1) | exact HB.out)) hb)
       clear BK416
       clear BK417
       clear BK429
       clear BK439
       clear HB
       have BK416 := n0_
       have BK417 := n1_
       have BK429 := n2_
       have BK439 := n3_
       have HB := n4_
       clear n0_ n1_ n2_ n3_ n4_
       (try clear hb)
       (try clear hb2)
       (try clear hk)
       (try clear hi)
       refine hK.out _ _ ⟨(blk_cell BK416.out 0).trans rfl, (blk_cell BK416.out 1).trans rfl, (blk_cell BK416.out 2).trans rfl, (blk_cell BK417.out 0).trans rfl, (blk_cell BK417.out 1).trans rfl⟩ (fun hHeld => ?_)
       clear hK K
       refine norm_ (a' := ?_) ?_ ?_
       rotate_left
       ·show Act.put _ (some 30) _ = _
        simp only [aq_]
        rfl
       refine one_ (i := 3) (N := some 32) q6_9 rfl rfl (one_of HT_.out (by kernel_rfl)) (by decide) (fun K hK => ?_)
       refine goes_ Try.func30 (by kernel_rfl) rfl #[.agg #[.string a1_0, .string a1_1]] (by rfl) rfl rfl (by (try simp only [mA_]); first | done | rfl | (simp only [List.length_drop, List.length_take]; rfl)) ?_
       with_reducible refine (laws_toLogRecord.calls a1_0 a1_1 t433 t434 _ A23.out).mono ?_
       rintro e w48 ⟨rfl, hb⟩
       refine ⟨_, rfl, ?_⟩
       have n0_ := Aside0.mk (blk_below (bs BK416.out) hb)
       have n1_ := Aside0.mk (blk_below (bs BK417.out) hb)
       have n2_ := Aside0.mk (blk_below (bs BK429.out) hb)
       have n3_ := Aside0.mk (blk_below (bs BK439.out) hb)
       have n4_ := Aside0.mk (below_step (by repeat (first | (with_reducible first | exact bw HB.out | refine bset ?_ (by assumption) | apply below_alloc | apply pw_below_drewN | apply below_drew1) | exact HB.out)) hb)
       clear BK416
       clear BK417
       clear BK429
       clear BK439
       clear HB
       have BK416 := n0_
       have BK417 := n1_
       have BK429 := n2_
       have BK439 := n3_
       have HB := n4_
       clear n0_ n1_ n2_ n3_ n4_
       (try clear hb)
       (try clear hb2)
       (try clear hk)
       (try clear hi)
       refine hK.out _ _ ⟨(blk_cell BK416.out 0).trans rfl, (blk_cell BK416.out 1).trans rfl, (blk_cell BK416.out 2).trans rfl, (blk_cell BK417.out 0).trans rfl, (blk_cell BK417.out 1).trans rfl⟩ (fun hHeld => ?_)
       clear hK K
       refine norm_ (a' := ?_) ?_ ?_
       rotate_left
       ·show Act.put _ (some 32) _ = _
        simp only [aq_]
        rfl
       refine one_ (i := 4) (N := some 33) q6_13 rfl rfl (one_of HT_.out (by kernel_rfl)) (by decide) (fun K hK => ?_)
       refine goes_ Try.func31 (by kernel_rfl) rfl #[.agg #[.string t430, .string t431, .int .i64 t432], .agg #[.string t433, .string t434]] (by rfl) rfl rfl (by (try simp only [mA_]); first | done | rfl | (simp only [List.length_drop, List.length_take]; rfl)) ?_
       with_reducible refine (impl_AppendRecord.calls k t430 t431 t432 t433 t434 t435 t436 t437 t438 _ A24.out).mono ?_
       rintro e w49 ⟨rfl, hb⟩
       refine ⟨_, rfl, ?_⟩
       have n0_ := Aside0.mk (blk_below (bs BK416.out) hb)
       have n1_ := Aside0.mk (blk_below (bs BK417.out) hb)
       have n2_ := Aside0.mk (blk_below (bs BK429.out) hb)
       have n3_ := Aside0.mk (blk_below (bs BK439.out) hb)
       have n4_ := Aside0.mk (below_step (by repeat (first | (with_reducible first | exact bw HB.out | refine bset ?_ (by assumption) | apply below_alloc | apply pw_below_drewN | apply below_drew1) | exact HB.out)) hb)
       clear BK416
       clear BK417
       clear BK429
       clear BK439
       clear HB
       have BK416 := n0_
       have BK417 := n1_
       have BK429 := n2_
       have BK439 := n3_
       have HB := n4_
       clear n0_ n1_ n2_ n3_ n4_
       (try clear hb)
       (try clear hb2)
       (try clear hk)
       (try clear hi)
       refine hK.out _ _ ⟨(blk_cell BK416.out 0).trans rfl, (blk_cell BK416.out 1).trans rfl, (blk_cell BK416.out 2).trans rfl, (blk_cell BK417.out 0).trans rfl, (blk_cell BK417.out 1).trans rfl⟩ (fun hHeld => ?_)
       clear hK K
       refine norm_ (a' := ?_) ?_ ?_
       rotate_left
       ·show Act.put _ (some 33) _ = _
        simp only [aq_]
        rfl
       refine pup_ (i := 5) (N := some 28) (v := ?_) (a' := ?_) HT_ rfl rfl (by kernel_rfl) (fun _ _ _ h => h) (Or.inl ⟨by rfl, ?_⟩) ?_ ?_
       rotate_left
       ·intro w'
        go_simp
        with_reducible rfl
       rotate_left
       ·simp only [aq_]
        rfl
       refine pup_ (i := 6) (N := some 34) (v := ?_) (a' := ?_) HT_ rfl rfl (by kernel_rfl) (fun _ _ _ h => h) (Or.inl ⟨by rfl, ?_⟩) ?_ ?_
       rotate_left
       ·intro w'
        go_simp
        with_reducible rfl
       rotate_left
       ·simp only [aq_]
        rfl
       refine pup_ (i := 7) (N := some 35) (v := ?_) (a' := ?_) HT_ rfl rfl (by kernel_rfl) (fun _ _ _ h => h) (Or.inl ⟨by rfl, ?_⟩) ?_ ?_
       rotate_left
       ·intro w'
        go_simp
        with_reducible rfl
       rotate_left
       ·simp only [aq_]
        rfl
       exact norm_ (by simp only [putAll, Act.put, List.setIfInBounds_toArray, List.set_cons_zero, List.set_cons_succ]) (hCont (gb439) _ ⟨hHeld, (bs BK416.out), (bs BK417.out), (bs BK429.out), (bs BK439.out), GW439.out, GE439.out, NB416_439.out, NB439_416.out, NB417_439.out, NB439_417.out, NB429_439.out, NB439_429.out, (by repeat (first | (with_reducible first | exact bw HB.out | refine bset ?_ (by assumption) | apply below_alloc | apply pw_below_drewN | apply below_drew1) | exact HB.out))⟩)
     rintro gb439 w50 ⟨hS_, h0_, h1_, h2_, h3_, h4_, h5_, h6_, h7_, h8_, h9_, h10_, h11_, h12_⟩
     have n0_ : Aside0 (w50.heap[gb416]? = some (.cells #[.string a0_0, .string a0_1, .int .i64 a0_2] 32 (0, 0))) := ⟨h0_⟩
     have n1_ : Aside0 (w50.heap[gb417]? = some (.cells #[.string a1_0, .string a1_1] 44 (0, 0))) := ⟨h1_⟩
     have n2_ : Aside0 (w50.heap[gb429]? = some (.cells #[.string t425, .string t426, .int .i64 t427] 34 (0, 0))) := ⟨h2_⟩
     have n3_ : Aside0 (w50.heap[gb439]? = some (.cells #[.string (⟨#[]⟩ : ByteArray), .string (⟨#[]⟩ : ByteArray), .int .i64 0] 34 (0, 0))) := ⟨h3_⟩
     have n4_ : Aside0 (w.heap.size ≤ gb439) := ⟨h4_⟩
     have n5_ : Aside0 (w.heap.size ≤ gb439) := ⟨h5_⟩
     have n6_ : Aside0 (gb416 ≠ gb439) := ⟨h6_⟩
     have n7_ : Aside0 (gb439 ≠ gb416) := ⟨h7_⟩
     have n8_ : Aside0 (gb417 ≠ gb439) := ⟨h8_⟩
     have n9_ : Aside0 (gb439 ≠ gb417) := ⟨h9_⟩
     have n10_ : Aside0 (gb429 ≠ gb439) := ⟨h10_⟩
     have n11_ : Aside0 (gb439 ≠ gb429) := ⟨h11_⟩
     have n12_ : Aside0 (Below w.heap.size w w50) := ⟨h12_⟩
     clear BK416
     clear BK417
     clear BK429
     clear HB
     clear h0_ h1_ h2_ h3_ h4_ h5_ h6_ h7_ h8_ h9_ h10_ h11_ h12_
     have BK416 := n0_
     have BK417 := n1_
     have BK429 := n2_
     have BK439 := n3_
     have GW439 := n4_
     have GE439 := n5_
     have NB416_439 := n6_
     have NB439_416 := n7_
     have NB417_439 := n8_
     have NB439_417 := n9_
     have NB429_439 := n10_
     have NB439_429 := n11_
     have HB := n12_
     clear n0_ n1_ n2_ n3_ n4_ n5_ n6_ n7_ n8_ n9_ n10_ n11_ n12_
     have hHeld : w50.cell? ⟨gb416, 0, none⟩ = some (.string a0_0) ∧ w50.cell? ⟨gb416, 1, none⟩ = some (.string a0_1) ∧ w50.cell? ⟨gb416, 2, none⟩ = some (.int .i64 a0_2) ∧ w50.cell? ⟨gb417, 0, none⟩ = some (.string a1_0) ∧ w50.cell? ⟨gb417, 1, none⟩ = some (.string a1_1) := hS_
     refine norm_ (a' := ?_) ?_ ?_
     rotate_left
     ·simp only [putAll, Act.put, List.setIfInBounds_toArray, List.set_cons_zero, List.set_cons_succ]
      rfl
     refine one_ (i := 9) (N := none) q6_16 rfl rfl (one_of HT_.out (by kernel_rfl)) (by decide) (fun K hK => ?_)
     have hs51 : w50.cell? ⟨gb439, 0, none⟩ = some (.string (⟨#[]⟩ : ByteArray)) := (blk_cell BK439.out 0).trans rfl
     have hfs51 := blk_frozen BK439.out 0
     have hns51_0 := NB416_439.out
     have hns51_1 := NB417_439.out
     have hns51_2 := NB429_439.out
     have hms51_0 := NB439_416.out
     have hms51_1 := NB439_417.out
     have hms51_2 := NB439_429.out
     have hs52 : w50.cell? ⟨gb439, 1, none⟩ = some (.string (⟨#[]⟩ : ByteArray)) := (blk_cell BK439.out 1).trans rfl
     have hfs52 := blk_frozen BK439.out 1
     have hns52_0 := NB416_439.out
     have hns52_1 := NB417_439.out
     have hns52_2 := NB429_439.out
     have hms52_0 := NB439_416.out
     have hms52_1 := NB439_417.out
     have hms52_2 := NB439_429.out
     have hs53 : w50.cell? ⟨gb439, 2, none⟩ = some (.int .i64 0) := (blk_cell BK439.out 2).trans rfl
     have hfs53 := blk_frozen BK439.out 2
     have hns53_0 := NB416_439.out
     have hns53_1 := NB417_439.out
     have hns53_2 := NB429_439.out
     have hms53_0 := NB439_416.out
     have hms53_1 := NB439_417.out
     have hms53_2 := NB439_429.out
     refine skip_ (w1 := ?_) (by rfl) rfl ?_ ?_
     rotate_left
     ·go_simp
      rfl
     refine hK.out _ _ ⟨((cell_far (p := ⟨gb439, _, none⟩) NB416_439.out _).trans (((cell_far (p := ⟨gb439, _, none⟩) NB416_439.out _).trans (((cell_far (p := ⟨gb439, _, none⟩) NB416_439.out _).trans (hHeld.1)))))), ((cell_far (p := ⟨gb439, _, none⟩) NB416_439.out _).trans (((cell_far (p := ⟨gb439, _, none⟩) NB416_439.out _).trans (((cell_far (p := ⟨gb439, _, none⟩) NB416_439.out _).trans (hHeld.2.1)))))), ((cell_far (p := ⟨gb439, _, none⟩) NB416_439.out _).trans (((cell_far (p := ⟨gb439, _, none⟩) NB416_439.out _).trans (((cell_far (p := ⟨gb439, _, none⟩) NB416_439.out _).trans (hHeld.2.2.1)))))), ((cell_far (p := ⟨gb439, _, none⟩) NB417_439.out _).trans (((cell_far (p := ⟨gb439, _, none⟩) NB417_439.out _).trans (((cell_far (p := ⟨gb439, _, none⟩) NB417_439.out _).trans (hHeld.2.2.2.1)))))), ((cell_far (p := ⟨gb439, _, none⟩) NB417_439.out _).trans (((cell_far (p := ⟨gb439, _, none⟩) NB417_439.out _).trans (((cell_far (p := ⟨gb439, _, none⟩) NB417_439.out _).trans (hHeld.2.2.2.2))))))⟩ (fun hHeld => ?_)
     clear hK K
     refine pup_ (i := 10) (N := some 9) (v := ?_) (a' := ?_) HT_ rfl rfl (by kernel_rfl) (fun _ _ _ h => h) (Or.inl ⟨by rfl, ?_⟩) ?_ ?_
     rotate_left
     ·intro w'
      go_simp
      with_reducible rfl
     rotate_left
     ·simp only [aq_]
      rfl
     refine done_ (done_of HT_.out (by kernel_rfl)) ?_
     have hnb54 := NB439_416.out
     have hnc54 := NB416_439.out
     have hnb55 := NB439_417.out
     have hnc55 := NB417_439.out
     have hnb56 := NB439_429.out
     have hnc56 := NB429_439.out
     have hcz57_0 := b3_0 BK439.out
     have hcz57_1 := b3_1 BK439.out
     have hcz57_2 := b3_2 BK439.out
     have hfz57_0 := blk_frozen BK439.out 0
     have hfz57_1 := blk_frozen BK439.out 1
     have hfz57_2 := blk_frozen BK439.out 2
     have hnb58 := NB429_416.out
     have hnc58 := NB416_429.out
     have hnb59 := NB429_417.out
     have hnc59 := NB417_429.out
     have hcz60_0 := b3_0 BK429.out
     have hcz60_1 := b3_1 BK429.out
     have hcz60_2 := b3_2 BK429.out
     have hfz60_0 := blk_frozen BK429.out 0
     have hfz60_1 := blk_frozen BK429.out 1
     have hfz60_2 := blk_frozen BK429.out 2
     try go_wp2_with (first | ((with_reducible refine gate_callee (f := 25) rfl ?_); refine goesL_ (some 38) rfl rfl Try.func25 (by kernel_rfl) rfl #[.agg #[.string t435, .string t436, .int .i64 t437], .agg #[.string t425, .string t426, .int .i64 t427]] rfl (by (try simp only [mA_]); first | done | rfl | (simp only [List.length_drop, List.length_take]; rfl)) ?_; (with_reducible refine (laws_eqLog.calls t435 t436 t437 t425 t426 t427 true _ A25.out).mono ?_); rintro e w61 ⟨rfl, hb⟩; refine ⟨_, rfl, ?_⟩; have n0_ := Aside0.mk (blk_below (g := gb416) (o := .cells #[.string a0_0, .string a0_1, .int .i64 a0_2] 32 (0, 0)) (by (with_reducible repeat (first | refine blk_drewN ?_ _ | refine blk_drew ?_ | refine blk_alloc ?_ _)); refine blk_far ?_ NB416_439.out _; (with_reducible repeat (first | refine blk_drewN ?_ _ | refine blk_drew ?_ | refine blk_alloc ?_ _)); refine blk_far ?_ NB416_439.out _; (with_reducible repeat (first | refine blk_drewN ?_ _ | refine blk_drew ?_ | refine blk_alloc ?_ _)); refine blk_far ?_ NB416_439.out _; exact bs BK416.out) hb); have n1_ := Aside0.mk (blk_below (g := gb417) (o := .cells #[.string a1_0, .string a1_1] 44 (0, 0)) (by (with_reducible repeat (first | refine blk_drewN ?_ _ | refine blk_drew ?_ | refine blk_alloc ?_ _)); refine blk_far ?_ NB417_439.out _; (with_reducible repeat (first | refine blk_drewN ?_ _ | refine blk_drew ?_ | refine blk_alloc ?_ _)); refine blk_far ?_ NB417_439.out _; (with_reducible repeat (first | refine blk_drewN ?_ _ | refine blk_drew ?_ | refine blk_alloc ?_ _)); refine blk_far ?_ NB417_439.out _; exact bs BK417.out) hb); have n2_ := Aside0.mk (blk_below (g := gb429) (o := .cells #[.string t425, .string t426, .int .i64 t427] 34 (0, 0)) (by (with_reducible repeat (first | refine blk_drewN ?_ _ | refine blk_drew ?_ | refine blk_alloc ?_ _)); refine blk_far ?_ NB429_439.out _; (with_reducible repeat (first | refine blk_drewN ?_ _ | refine blk_drew ?_ | refine blk_alloc ?_ _)); refine blk_far ?_ NB429_439.out _; (with_reducible repeat (first | refine blk_drewN ?_ _ | refine blk_drew ?_ | refine blk_alloc ?_ _)); refine blk_far ?_ NB429_439.out _; exact bs BK429.out) hb); have n3_ := Aside0.mk (blk_below (g := gb439) (o := .cells #[.string t435, .string t436, .int .i64 t437] 34 (0, 0)) (by (with_reducible repeat (first | refine blk_drewN ?_ _ | refine blk_drew ?_ | refine blk_alloc ?_ _)); refine blk_put (cs := #[.string t435, .string t436, .int .i64 0]) ?_ 2 _ rfl; (with_reducible repeat (first | refine blk_drewN ?_ _ | refine blk_drew ?_ | refine blk_alloc ?_ _)); refine blk_put (cs := #[.string t435, .string (⟨#[]⟩ : ByteArray), .int .i64 0]) ?_ 1 _ rfl; (with_reducible repeat (first | refine blk_drewN ?_ _ | refine blk_drew ?_ | refine blk_alloc ?_ _)); refine blk_put (cs := #[.string (⟨#[]⟩ : ByteArray), .string (⟨#[]⟩ : ByteArray), .int .i64 0]) ?_ 0 _ rfl; exact bs BK439.out) hb); have n4_ := Aside0.mk (below_step (by repeat (first | (with_reducible first | exact bw HB.out | refine bset ?_ (by assumption) | apply below_alloc | apply pw_below_drewN | apply below_drew1) | exact HB.out)) hb); clear BK416; clear BK417; clear BK429; clear BK439; clear HB; have BK416 := n0_; have BK417 := n1_; have BK429 := n2_; have BK439 := n3_; have HB := n4_; clear n0_ n1_ n2_ n3_ n4_; (try clear hb); (try clear hb2); (try clear hk); (try clear hi)))
     go_ret
     exact ⟨by first | rfl | (simp [errW_none, errW_some] <;> rfl) | (simp [*, errW_none, errW_some] <;> rfl), by repeat (first | (with_reducible first | exact bw HB.out | refine bset ?_ (by assumption) | apply below_alloc | apply pw_below_drewN | apply below_drew1) | exact HB.out)⟩
    ·rw [if_neg c27] at H
     have c27b0 : (t438 == t428) = false := beq_eq_false_iff_ne.mpr c27
     have c27b1 : (t438 != t428) = true := bne_iff_ne.mpr c27
     obtain rfl := Option.some.inj H
     go_enter Try.func6, Try.ntmps6
     try go_wp2_with (first | ((with_reducible refine gate_dst (N := 2) rfl ?_); refine box_event ?hg (N := 2) ?hd (cs := #[.string a0_0, .string a0_1, .int .i64 a0_2]) (t := 32) ?hr ?_; (case hd => rfl); (case hg => rfl); (case hr => first | (go_simp; done) | (go_simp; rfl)); intro gb416 hg w62 hbox hb; have n0_ := Aside0.mk (below_step (bw HB.out) hb); have n1_ := Aside0.mk (hbox); have n2_ := ge_ hg HB.out; have n3_ := ge_ hg HB.out; clear HB; have HB := n0_; have BK416 := n1_; have GW416 := n2_; have GE416 := n3_; clear n0_ n1_ n2_ n3_; clear hb hbox hg) | ((with_reducible refine gate_dst (N := 3) rfl ?_); refine box_event ?hg (N := 3) ?hd (cs := #[.string a1_0, .string a1_1]) (t := 44) ?hr ?_; (case hd => rfl); (case hg => rfl); (case hr => first | (go_simp; done) | (go_simp; rfl)); intro gb417 hg w63 hbox hb; have n0_ := Aside0.mk (blk_below (bs BK416.out) hb); have n1_ := Aside0.mk (below_step (by repeat (first | (with_reducible first | exact bw HB.out | refine bset ?_ (by assumption) | apply below_alloc | apply pw_below_drewN | apply below_drew1) | exact HB.out)) hb); have n2_ := Aside0.mk (hbox); have n3_ := Aside0.mk ((by rw [hg]; exact (below_size (by repeat (first | (with_reducible first | exact bw HB.out | refine bset ?_ (by assumption) | apply below_alloc | apply pw_below_drewN | apply below_drew1) | exact HB.out))) : w.heap.size ≤ gb417)); have n4_ := Aside0.mk ((by rw [hg]; exact (below_size (by repeat (first | (with_reducible first | exact bw HB.out | refine bset ?_ (by assumption) | apply below_alloc | apply pw_below_drewN | apply below_drew1) | exact HB.out))) : w.heap.size ≤ gb417)); have n5_ := ne_ hg BK416.out; have n6_ := en_ hg BK416.out; clear BK416; clear HB; have BK416 := n0_; have HB := n1_; have BK417 := n2_; have GW417 := n3_; have GE417 := n4_; have NB416_417 := n5_; have NB417_416 := n6_; clear n0_ n1_ n2_ n3_ n4_ n5_ n6_; clear hb hbox hg; have hnb64 := NB416_417.out; have hnc64 := NB417_416.out; have hcz65_0 := b3_0 BK416.out; have hcz65_1 := b3_1 BK416.out; have hcz65_2 := b3_2 BK416.out; have hfz65_0 := blk_frozen BK416.out 0; have hfz65_1 := blk_frozen BK416.out 1; have hfz65_2 := blk_frozen BK416.out 2) | ((with_reducible refine gate_callee (f := 21) rfl ?_); refine goesL_ (some 12) rfl rfl Try.func21 (by kernel_rfl) rfl #[.agg #[.string a0_0, .string a0_1, .int .i64 a0_2], .int .i64 1048576] rfl (by (try simp only [mA_]); first | done | rfl | (simp only [List.length_drop, List.length_take]; rfl)) ?_; (with_reducible refine (laws_szLog.calls a0_0 a0_1 a0_2 1048576 t418 _ A3.out).mono ?_); rintro e w66 ⟨rfl, hb⟩; refine ⟨_, rfl, ?_⟩; have n0_ := Aside0.mk (blk_below (bs BK416.out) hb); have n1_ := Aside0.mk (blk_below (bs BK417.out) hb); have n2_ := Aside0.mk (below_step (by repeat (first | (with_reducible first | exact bw HB.out | refine bset ?_ (by assumption) | apply below_alloc | apply pw_below_drewN | apply below_drew1) | exact HB.out)) hb); clear BK416; clear BK417; clear HB; have BK416 := n0_; have BK417 := n1_; have HB := n2_; clear n0_ n1_ n2_; (try clear hb); (try clear hb2); (try clear hk); (try clear hi); have hcz67_0 := b2_0 BK417.out; have hcz67_1 := b2_1 BK417.out; have hfz67_0 := blk_frozen BK417.out 0; have hfz67_1 := blk_frozen BK417.out 1) | ((with_reducible refine gate_callee (f := 28) rfl ?_); refine goesL_ (some 17) rfl rfl Try.func28 (by kernel_rfl) rfl #[.agg #[.string a1_0, .string a1_1], .int .i64 t418] rfl (by (try simp only [mA_]); first | done | rfl | (simp only [List.length_drop, List.length_take]; rfl)) ?_; (with_reducible refine (laws_szLogRecord.calls a1_0 a1_1 t418 t419 _ A10.out).mono ?_); rintro e w68 ⟨rfl, hb⟩; refine ⟨_, rfl, ?_⟩; have n0_ := Aside0.mk (blk_below (bs BK416.out) hb); have n1_ := Aside0.mk (blk_below (bs BK417.out) hb); have n2_ := Aside0.mk (below_step (by repeat (first | (with_reducible first | exact bw HB.out | refine bset ?_ (by assumption) | apply below_alloc | apply pw_below_drewN | apply below_drew1) | exact HB.out)) hb); clear BK416; clear BK417; clear HB; have BK416 := n0_; have BK417 := n1_; have HB := n2_; clear n0_ n1_ n2_; (try clear hb); (try clear hb2); (try clear hk); (try clear hi)))
     have n0_ := Aside0.mk (blk_drew BK416.out)
     have n1_ := Aside0.mk (blk_drew BK417.out)
     have n2_ := Aside0.mk (below_drew1 HB.out)
     clear BK416
     clear BK417
     clear HB
     have BK416 := n0_
     have BK417 := n1_
     have HB := n2_
     clear n0_ n1_ n2_
     refine start_ (n := 11) (S := fun w' => w'.cell? ⟨gb416, 0, none⟩ = some (.string a0_0) ∧ w'.cell? ⟨gb416, 1, none⟩ = some (.string a0_1) ∧ w'.cell? ⟨gb416, 2, none⟩ = some (.int .i64 a0_2) ∧ w'.cell? ⟨gb417, 0, none⟩ = some (.string a1_0) ∧ w'.cell? ⟨gb417, 1, none⟩ = some (.string a1_1)) (ds := []) q6_0 (by kernel_rfl) rfl rfl ⟨(blk_cell BK416.out 0).trans rfl, (blk_cell BK416.out 1).trans rfl, (blk_cell BK416.out 2).trans rfl, (blk_cell BK417.out 0).trans rfl, (blk_cell BK417.out 1).trans rfl⟩ (fun hHeld => ?_); refine with_tabW laws_FnExactAppendRecord.tab8 laws_FnExactAppendRecord.bits8 (fun HT_ HW_ => ?_)
     generalize w68.drew = w69 at BK416 BK417 HB hHeld ⊢
     refine take_ (i := 0) (N := some 21) (v := ?_) (a' := ?_) q6_1 rfl rfl (take_ofW HT_.out HW_.out (by kernel_rfl)) (fun _ _ _ h => h) (Or.inl ⟨by rfl, ?_⟩) hHeld ?_ ?_
     rotate_left
     ·rintro w' ⟨s0, s1, s2, s3, s4⟩
      go_simp
      with_reducible rfl
     rotate_left
     ·simp only [aq_]
      rfl
     refine take_ (i := 2) (N := some 23) (v := ?_) (a' := ?_) q6_2 rfl rfl (take_ofW HT_.out HW_.out (by kernel_rfl)) (fun _ _ _ h => h) (Or.inl ⟨by rfl, ?_⟩) hHeld ?_ ?_
     rotate_left
     ·rintro w' ⟨s0, s1, s2, s3, s4⟩
      go_simp
      with_reducible rfl
     rotate_left
     ·simp only [aq_]
      rfl
     refine join_ (σ := Nat) 2 q6_3 (fun s_ => [(22, .agg #[.string t420, .string t421, .int .i64 t422]), (24, .agg #[.string t423, .string t424]), (25, .tuple #[.agg #[.string t425, .string t426, .int .i64 t427], .int .i64 t428]), (6, .pointer (some ⟨s_, 0, none⟩)), (20, .tuple #[.agg #[.string t425, .string t426, .int .i64 t427], .int .i64 t428]), (26, .agg #[.string t425, .string t426, .int .i64 t427]), (27, .int .i64 t428)]) (fun s_ w' => (w'.cell? ⟨gb416, 0, none⟩ = some (.string a0_0) ∧ w'.cell? ⟨gb416, 1, none⟩ = some (.string a0_1) ∧ w'.cell? ⟨gb416, 2, none⟩ = some (.int .i64 a0_2) ∧ w'.cell? ⟨gb417, 0, none⟩ = some (.string a1_0) ∧ w'.cell? ⟨gb417, 1, none⟩ = some (.string a1_1)) ∧ (w'.heap[gb416]? = some (.cells #[.string a0_0, .string a0_1, .int .i64 a0_2] 32 (0, 0))) ∧ (w'.heap[gb417]? = some (.cells #[.string a1_0, .string a1_1] 44 (0, 0))) ∧ (w'.heap[s_]? = some (.cells #[.string (⟨#[]⟩ : ByteArray), .string (⟨#[]⟩ : ByteArray), .int .i64 0] 34 (0, 0))) ∧ (w.heap.size ≤ s_) ∧ (w.heap.size ≤ s_) ∧ (gb416 ≠ s_) ∧ (s_ ≠ gb416) ∧ (gb417 ≠ s_) ∧ (s_ ≠ gb417) ∧ (Below w.heap.size w w')) ?_ ?_
     rotate_left
     ·intro hCont
      refine two_ (i := 1) (j := 8) (Ni := some 22) (Nj := some 6) q6_4 q6_5 rfl rfl rfl rfl (two_of HT_.out (by kernel_rfl)) (by decide) (by decide) (fun K hK => ?_) (fun K hK => ?_)
      ·skip
       refine goes_ Try.func23 (by kernel_rfl) rfl #[.agg #[.string a0_0, .string a0_1, .int .i64 a0_2]] (by rfl) rfl rfl (by (try simp only [mA_]); first | done | rfl | (simp only [List.length_drop, List.length_take]; rfl)) ?_
       with_reducible refine (laws_toLog.calls a0_0 a0_1 a0_2 t420 t421 t422 _ A19.out).mono ?_
       rintro e w70 ⟨rfl, hb⟩
       refine ⟨_, rfl, ?_⟩
       have n0_ := Aside0.mk (blk_below (bs BK416.out) hb)
       have n1_ := Aside0.mk (blk_below (bs BK417.out) hb)
       have n2_ := Aside0.mk (below_step (by repeat (first | (with_reducible first | exact bw HB.out | refine bset ?_ (by assumption) | apply below_alloc | apply pw_below_drewN | apply below_drew1) | exact HB.out)) hb)
       clear BK416
       clear BK417
       clear HB
       have BK416 := n0_
       have BK417 := n1_
       have HB := n2_
       clear n0_ n1_ n2_
       (try clear hb)
       (try clear hb2)
       (try clear hk)
       (try clear hi)
       refine hK.out _ _ ⟨(blk_cell BK416.out 0).trans rfl, (blk_cell BK416.out 1).trans rfl, (blk_cell BK416.out 2).trans rfl, (blk_cell BK417.out 0).trans rfl, (blk_cell BK417.out 1).trans rfl⟩ (fun hHeld => ?_)
       clear hK K
       refine norm_ (a' := ?_) ?_ ?_
       rotate_left
       ·show Act.put _ (some 22) _ = _
        simp only [aq_]
        rfl
       refine two_ (i := 3) (j := 8) (Ni := some 24) (Nj := some 6) q6_6 q6_7 rfl rfl rfl rfl (two_of HT_.out (by kernel_rfl)) (by decide) (by decide) (fun K hK => ?_) (fun K hK => ?_)
       ·skip
        refine goes_ Try.func30 (by kernel_rfl) rfl #[.agg #[.string a1_0, .string a1_1]] (by rfl) rfl rfl (by (try simp only [mA_]); first | done | rfl | (simp only [List.length_drop, List.length_take]; rfl)) ?_
        with_reducible refine (laws_toLogRecord.calls a1_0 a1_1 t423 t424 _ A20.out).mono ?_
        rintro e w71 ⟨rfl, hb⟩
        refine ⟨_, rfl, ?_⟩
        have n0_ := Aside0.mk (blk_below (bs BK416.out) hb)
        have n1_ := Aside0.mk (blk_below (bs BK417.out) hb)
        have n2_ := Aside0.mk (below_step (by repeat (first | (with_reducible first | exact bw HB.out | refine bset ?_ (by assumption) | apply below_alloc | apply pw_below_drewN | apply below_drew1) | exact HB.out)) hb)
        clear BK416
        clear BK417
        clear HB
        have BK416 := n0_
        have BK417 := n1_
        have HB := n2_
        clear n0_ n1_ n2_
        (try clear hb)
        (try clear hb2)
        (try clear hk)
        (try clear hi)
        refine hK.out _ _ ⟨(blk_cell BK416.out 0).trans rfl, (blk_cell BK416.out 1).trans rfl, (blk_cell BK416.out 2).trans rfl, (blk_cell BK417.out 0).trans rfl, (blk_cell BK417.out 1).trans rfl⟩ (fun hHeld => ?_)
        clear hK K
        refine norm_ (a' := ?_) ?_ ?_
        rotate_left
        ·show Act.put _ (some 24) _ = _
         simp only [aq_]
         rfl
        refine two_ (i := 4) (j := 8) (Ni := some 25) (Nj := some 6) q6_8 q6_9 rfl rfl rfl rfl (two_of HT_.out (by kernel_rfl)) (by decide) (by decide) (fun K hK => ?_) (fun K hK => ?_)
        ·skip
         refine goes_ Try.func29 (by kernel_rfl) rfl #[.agg #[.string t420, .string t421, .int .i64 t422], .agg #[.string t423, .string t424]] (by rfl) rfl rfl (by (try simp only [mA_]); first | done | rfl | (simp only [List.length_drop, List.length_take]; rfl)) ?_
         with_reducible refine (spec_AppendRecord.calls k t420 t421 t422 t423 t424 t425 t426 t427 t428 _ A21.out).mono ?_
         rintro e w72 ⟨rfl, hb⟩
         refine ⟨_, rfl, ?_⟩
         have n0_ := Aside0.mk (blk_below (bs BK416.out) hb)
         have n1_ := Aside0.mk (blk_below (bs BK417.out) hb)
         have n2_ := Aside0.mk (below_step (by repeat (first | (with_reducible first | exact bw HB.out | refine bset ?_ (by assumption) | apply below_alloc | apply pw_below_drewN | apply below_drew1) | exact HB.out)) hb)
         clear BK416
         clear BK417
         clear HB
         have BK416 := n0_
         have BK417 := n1_
         have HB := n2_
         clear n0_ n1_ n2_
         (try clear hb)
         (try clear hb2)
         (try clear hk)
         (try clear hi)
         refine hK.out _ _ ⟨(blk_cell BK416.out 0).trans rfl, (blk_cell BK416.out 1).trans rfl, (blk_cell BK416.out 2).trans rfl, (blk_cell BK417.out 0).trans rfl, (blk_cell BK417.out 1).trans rfl⟩ (fun hHeld => ?_)
         clear hK K
         refine norm_ (a' := ?_) ?_ ?_
         rotate_left
         ·show Act.put _ (some 25) _ = _
          simp only [aq_]
          rfl
         refine pup_ (i := 5) (N := some 20) (v := ?_) (a' := ?_) HT_ rfl rfl (by kernel_rfl) (fun _ _ _ h => h) (Or.inl ⟨by rfl, ?_⟩) ?_ ?_
         rotate_left
         ·intro w'
          go_simp
          with_reducible rfl
         rotate_left
         ·simp only [aq_]
          rfl
         refine pup_ (i := 6) (N := some 26) (v := ?_) (a' := ?_) HT_ rfl rfl (by kernel_rfl) (fun _ _ _ h => h) (Or.inl ⟨by rfl, ?_⟩) ?_ ?_
         rotate_left
         ·intro w'
          go_simp
          with_reducible rfl
         rotate_left
         ·simp only [aq_]
          rfl
         refine pup_ (i := 7) (N := some 27) (v := ?_) (a' := ?_) HT_ rfl rfl (by kernel_rfl) (fun _ _ _ h => h) (Or.inl ⟨by rfl, ?_⟩) ?_ ?_
         rotate_left
         ·intro w'
          go_simp
          with_reducible rfl
         rotate_left
         ·simp only [aq_]
          rfl
         refine one_ (i := 8) (N := some 6) q6_3 rfl rfl (one_of HT_.out (by kernel_rfl)) (by decide) (fun K hK => ?_)
         refine box_step ?hg (N := 6) ?hd (cs := #[.string (⟨#[]⟩ : ByteArray), .string (⟨#[]⟩ : ByteArray), .int .i64 0]) (t := 34) ?hr ?_; (case hd => rfl); (case hg => rfl); (case hr => first | (go_simp; done) | (go_simp; rfl))
         intro gb429 hg w73 hbox hb
         have n0_ := Aside0.mk (blk_below (bs BK416.out) hb)
         have n1_ := Aside0.mk (blk_below (bs BK417.out) hb)
         have n2_ := Aside0.mk (below_step (by repeat (first | (with_reducible first | exact bw HB.out | refine bset ?_ (by assumption) | apply below_alloc | apply pw_below_drewN | apply below_drew1) | exact HB.out)) hb)
         have n3_ := Aside0.mk (hbox)
         have n4_ := Aside0.mk ((by rw [hg]; exact (below_size (by repeat (first | (with_reducible first | exact bw HB.out | refine bset ?_ (by assumption) | apply below_alloc | apply pw_below_drewN | apply below_drew1) | exact HB.out))) : w.heap.size ≤ gb429))
         have n5_ := Aside0.mk ((by rw [hg]; exact (below_size (by repeat (first | (with_reducible first | exact bw HB.out | refine bset ?_ (by assumption) | apply below_alloc | apply pw_below_drewN | apply below_drew1) | exact HB.out))) : w.heap.size ≤ gb429))
         have n6_ := ne_ hg BK416.out
         have n7_ := en_ hg BK416.out
         have n8_ := ne_ hg BK417.out
         have n9_ := en_ hg BK417.out
         clear BK416
         clear BK417
         clear HB
         have BK416 := n0_
         have BK417 := n1_
         have HB := n2_
         have BK429 := n3_
         have GW429 := n4_
         have GE429 := n5_
         have NB416_429 := n6_
         have NB429_416 := n7_
         have NB417_429 := n8_
         have NB429_417 := n9_
         clear n0_ n1_ n2_ n3_ n4_ n5_ n6_ n7_ n8_ n9_
         clear hb hbox hg
         refine hK.out _ _ ⟨(blk_cell BK416.out 0).trans rfl, (blk_cell BK416.out 1).trans rfl, (blk_cell BK416.out 2).trans rfl, (blk_cell BK417.out 0).trans rfl, (blk_cell BK417.out 1).trans rfl⟩ (fun hHeld => ?_)
         clear hK K
         refine norm_ (a' := ?_) ?_ ?_
         rotate_left
         ·show Act.put _ (some 6) _ = _
          simp only [aq_]
          rfl
         exact norm_ (by simp only [putAll, Act.put, List.setIfInBounds_toArray, List.set_cons_zero, List.set_cons_succ]) (hCont (gb429) _ ⟨hHeld, (bs BK416.out), (bs BK417.out), (bs BK429.out), GW429.out, GE429.out, NB416_429.out, NB429_416.out, NB417_429.out, NB429_417.out, (by repeat (first | (with_reducible first | exact bw HB.out | refine bset ?_ (by assumption) | apply below_alloc | apply pw_below_drewN | apply below_drew1) | exact HB.out))⟩)
        ·skip
         refine box_step ?hg (N := 6) ?hd (cs := #[.string (⟨#[]⟩ : ByteArray), .string (⟨#[]⟩ : ByteArray), .int .i64 0]) (t := 34) ?hr ?_; (case hd => rfl); (case hg => rfl); (case hr => first | (go_simp; done) | (go_simp; rfl))
         intro gb429 hg w72 hbox hb
         have n0_ := Aside0.mk (blk_below (bs BK416.out) hb)
         have n1_ := Aside0.mk (blk_below (bs BK417.out) hb)
         have n2_ := Aside0.mk (below_step (by repeat (first | (with_reducible first | exact bw HB.out | refine bset ?_ (by assumption) | apply below_alloc | apply pw_below_drewN | apply below_drew1) | exact HB.out)) hb)
         have n3_ := Aside0.mk (hbox)
         have n4_ := Aside0.mk ((by rw [hg]; exact (below_size (by repeat (first | (with_reducible first | exact bw HB.out | refine bset ?_ (by assumption) | apply below_alloc | apply pw_below_drewN | apply below_drew1) | exact HB.out))) : w.heap.size ≤ gb429))
         have n5_ := Aside0.mk ((by rw [hg]; exact (below_size (by repeat (first | (with_reducible first | exact bw HB.out | refine bset ?_ (by assumption) | apply below_alloc | apply pw_below_drewN | apply below_drew1) | exact HB.out))) : w.heap.size ≤ gb429))
         have n6_ := ne_ hg BK416.out
         have n7_ := en_ hg BK416.out
         have n8_ := ne_ hg BK417.out
         have n9_ := en_ hg BK417.out
         clear BK416
         clear BK417
         clear HB
         have BK416 := n0_
         have BK417 := n1_
         have HB := n2_
         have BK429 := n3_
         have GW429 := n4_
         have GE429 := n5_
         have NB416_429 := n6_
         have NB429_416 := n7_
         have NB417_429 := n8_
         have NB429_417 := n9_
         clear n0_ n1_ n2_ n3_ n4_ n5_ n6_ n7_ n8_ n9_
         clear hb hbox hg
         refine hK.out _ _ ⟨(blk_cell BK416.out 0).trans rfl, (blk_cell BK416.out 1).trans rfl, (blk_cell BK416.out 2).trans rfl, (blk_cell BK417.out 0).trans rfl, (blk_cell BK417.out 1).trans rfl⟩ (fun hHeld => ?_)
         clear hK K
         refine norm_ (a' := ?_) ?_ ?_
         rotate_left
         ·show Act.put _ (some 6) _ = _
          simp only [aq_]
          rfl
         refine one_ (i := 4) (N := some 25) q6_13 rfl rfl (one_of HT_.out (by kernel_rfl)) (by decide) (fun K hK => ?_)
         refine goes_ Try.func29 (by kernel_rfl) rfl #[.agg #[.string t420, .string t421, .int .i64 t422], .agg #[.string t423, .string t424]] (by rfl) rfl rfl (by (try simp only [mA_]); first | done | rfl | (simp only [List.length_drop, List.length_take]; rfl)) ?_
         with_reducible refine (spec_AppendRecord.calls k t420 t421 t422 t423 t424 t425 t426 t427 t428 _ A21.out).mono ?_
         rintro e w73 ⟨rfl, hb⟩
         refine ⟨_, rfl, ?_⟩
         have n0_ := Aside0.mk (blk_below (bs BK416.out) hb)
         have n1_ := Aside0.mk (blk_below (bs BK417.out) hb)
         have n2_ := Aside0.mk (blk_below (bs BK429.out) hb)
         have n3_ := Aside0.mk (below_step (by repeat (first | (with_reducible first | exact bw HB.out | refine bset ?_ (by assumption) | apply below_alloc | apply pw_below_drewN | apply below_drew1) | exact HB.out)) hb)
         clear BK416
         clear BK417
         clear BK429
         clear HB
         have BK416 := n0_
         have BK417 := n1_
         have BK429 := n2_
         have HB := n3_
         clear n0_ n1_ n2_ n3_
         (try clear hb)
         (try clear hb2)
         (try clear hk)
         (try clear hi)
         refine hK.out _ _ ⟨(blk_cell BK416.out 0).trans rfl, (blk_cell BK416.out 1).trans rfl, (blk_cell BK416.out 2).trans rfl, (blk_cell BK417.out 0).trans rfl, (blk_cell BK417.out 1).trans rfl⟩ (fun hHeld => ?_)
         clear hK K
         refine norm_ (a' := ?_) ?_ ?_
         rotate_left
         ·show Act.put _ (some 25) _ = _
          simp only [aq_]
          rfl
         refine pup_ (i := 5) (N := some 20) (v := ?_) (a' := ?_) HT_ rfl rfl (by kernel_rfl) (fun _ _ _ h => h) (Or.inl ⟨by rfl, ?_⟩) ?_ ?_
         rotate_left
         ·intro w'
          go_simp
          with_reducible rfl
         rotate_left
         ·simp only [aq_]
          rfl
         refine pup_ (i := 6) (N := some 26) (v := ?_) (a' := ?_) HT_ rfl rfl (by kernel_rfl) (fun _ _ _ h => h) (Or.inl ⟨by rfl, ?_⟩) ?_ ?_
         rotate_left
         ·intro w'
          go_simp
          with_reducible rfl
         rotate_left
         ·simp only [aq_]
          rfl
         refine pup_ (i := 7) (N := some 27) (v := ?_) (a' := ?_) HT_ rfl rfl (by kernel_rfl) (fun _ _ _ h => h) (Or.inl ⟨by rfl, ?_⟩) ?_ ?_
         rotate_left
         ·intro w'
          go_simp
          with_reducible rfl
         rotate_left
         ·simp only [aq_]
          rfl
         exact norm_ (by simp only [putAll, Act.put, List.setIfInBounds_toArray, List.set_cons_zero, List.set_cons_succ]) (hCont (gb429) _ ⟨hHeld, (bs BK416.out), (bs BK417.out), (bs BK429.out), GW429.out, GE429.out, NB416_429.out, NB429_416.out, NB417_429.out, NB429_417.out, (by repeat (first | (with_reducible first | exact bw HB.out | refine bset ?_ (by assumption) | apply below_alloc | apply pw_below_drewN | apply below_drew1) | exact HB.out))⟩)
       ·skip
        refine box_step ?hg (N := 6) ?hd (cs := #[.string (⟨#[]⟩ : ByteArray), .string (⟨#[]⟩ : ByteArray), .int .i64 0]) (t := 34) ?hr ?_; (case hd => rfl); (case hg => rfl); (case hr => first | (go_simp; done) | (go_simp; rfl))
        intro gb429 hg w71 hbox hb
        have n0_ := Aside0.mk (blk_below (bs BK416.out) hb)
        have n1_ := Aside0.mk (blk_below (bs BK417.out) hb)
        have n2_ := Aside0.mk (below_step (by repeat (first | (with_reducible first | exact bw HB.out | refine bset ?_ (by assumption) | apply below_alloc | apply pw_below_drewN | apply below_drew1) | exact HB.out)) hb)
        have n3_ := Aside0.mk (hbox)
        have n4_ := Aside0.mk ((by rw [hg]; exact (below_size (by repeat (first | (with_reducible first | exact bw HB.out | refine bset ?_ (by assumption) | apply below_alloc | apply pw_below_drewN | apply below_drew1) | exact HB.out))) : w.heap.size ≤ gb429))
        have n5_ := Aside0.mk ((by rw [hg]; exact (below_size (by repeat (first | (with_reducible first | exact bw HB.out | refine bset ?_ (by assumption) | apply below_alloc | apply pw_below_drewN | apply below_drew1) | exact HB.out))) : w.heap.size ≤ gb429))
        have n6_ := ne_ hg BK416.out
        have n7_ := en_ hg BK416.out
        have n8_ := ne_ hg BK417.out
        have n9_ := en_ hg BK417.out
        clear BK416
        clear BK417
        clear HB
        have BK416 := n0_
        have BK417 := n1_
        have HB := n2_
        have BK429 := n3_
        have GW429 := n4_
        have GE429 := n5_
        have NB416_429 := n6_
        have NB429_416 := n7_
        have NB417_429 := n8_
        have NB429_417 := n9_
        clear n0_ n1_ n2_ n3_ n4_ n5_ n6_ n7_ n8_ n9_
        clear hb hbox hg
        refine hK.out _ _ ⟨(blk_cell BK416.out 0).trans rfl, (blk_cell BK416.out 1).trans rfl, (blk_cell BK416.out 2).trans rfl, (blk_cell BK417.out 0).trans rfl, (blk_cell BK417.out 1).trans rfl⟩ (fun hHeld => ?_)
        clear hK K
        refine norm_ (a' := ?_) ?_ ?_
        rotate_left
        ·show Act.put _ (some 6) _ = _
         simp only [aq_]
         rfl
        refine one_ (i := 3) (N := some 24) q6_9 rfl rfl (one_of HT_.out (by kernel_rfl)) (by decide) (fun K hK => ?_)
        refine goes_ Try.func30 (by kernel_rfl) rfl #[.agg #[.string a1_0, .string a1_1]] (by rfl) rfl rfl (by (try simp only [mA_]); first | done | rfl | (simp only [List.length_drop, List.length_take]; rfl)) ?_
        with_reducible refine (laws_toLogRecord.calls a1_0 a1_1 t423 t424 _ A20.out).mono ?_
        rintro e w72 ⟨rfl, hb⟩
        refine ⟨_, rfl, ?_⟩
        have n0_ := Aside0.mk (blk_below (bs BK416.out) hb)
        have n1_ := Aside0.mk (blk_below (bs BK417.out) hb)
        have n2_ := Aside0.mk (blk_below (bs BK429.out) hb)
        have n3_ := Aside0.mk (below_step (by repeat (first | (with_reducible first | exact bw HB.out | refine bset ?_ (by assumption) | apply below_alloc | apply pw_below_drewN | apply below_drew1) | exact HB.out)) hb)
        clear BK416
        clear BK417
        clear BK429
        clear HB
        have BK416 := n0_
        have BK417 := n1_
        have BK429 := n2_
        have HB := n3_
        clear n0_ n1_ n2_ n3_
        (try clear hb)
        (try clear hb2)
        (try clear hk)
        (try clear hi)
        refine hK.out _ _ ⟨(blk_cell BK416.out 0).trans rfl, (blk_cell BK416.out 1).trans rfl, (blk_cell BK416.out 2).trans rfl, (blk_cell BK417.out 0).trans rfl, (blk_cell BK417.out 1).trans rfl⟩ (fun hHeld => ?_)
        clear hK K
        refine norm_ (a' := ?_) ?_ ?_
        rotate_left
        ·show Act.put _ (some 24) _ = _
         simp only [aq_]
         rfl
        refine one_ (i := 4) (N := some 25) q6_13 rfl rfl (one_of HT_.out (by kernel_rfl)) (by decide) (fun K hK => ?_)
        refine goes_ Try.func29 (by kernel_rfl) rfl #[.agg #[.string t420, .string t421, .int .i64 t422], .agg #[.string t423, .string t424]] (by rfl) rfl rfl (by (try simp only [mA_]); first | done | rfl | (simp only [List.length_drop, List.length_take]; rfl)) ?_
        with_reducible refine (spec_AppendRecord.calls k t420 t421 t422 t423 t424 t425 t426 t427 t428 _ A21.out).mono ?_
        rintro e w73 ⟨rfl, hb⟩
        refine ⟨_, rfl, ?_⟩
        have n0_ := Aside0.mk (blk_below (bs BK416.out) hb)
        have n1_ := Aside0.mk (blk_below (bs BK417.out) hb)
        have n2_ := Aside0.mk (blk_below (bs BK429.out) hb)
        have n3_ := Aside0.mk (below_step (by repeat (first | (with_reducible first | exact bw HB.out | refine bset ?_ (by assumption) | apply below_alloc | apply pw_below_drewN | apply below_drew1) | exact HB.out)) hb)
        clear BK416
        clear BK417
        clear BK429
        clear HB
        have BK416 := n0_
        have BK417 := n1_
        have BK429 := n2_
        have HB := n3_
        clear n0_ n1_ n2_ n3_
        (try clear hb)
        (try clear hb2)
        (try clear hk)
        (try clear hi)
        refine hK.out _ _ ⟨(blk_cell BK416.out 0).trans rfl, (blk_cell BK416.out 1).trans rfl, (blk_cell BK416.out 2).trans rfl, (blk_cell BK417.out 0).trans rfl, (blk_cell BK417.out 1).trans rfl⟩ (fun hHeld => ?_)
        clear hK K
        refine norm_ (a' := ?_) ?_ ?_
        rotate_left
        ·show Act.put _ (some 25) _ = _
         simp only [aq_]
         rfl
        refine pup_ (i := 5) (N := some 20) (v := ?_) (a' := ?_) HT_ rfl rfl (by kernel_rfl) (fun _ _ _ h => h) (Or.inl ⟨by rfl, ?_⟩) ?_ ?_
        rotate_left
        ·intro w'
         go_simp
         with_reducible rfl
        rotate_left
        ·simp only [aq_]
         rfl
        refine pup_ (i := 6) (N := some 26) (v := ?_) (a' := ?_) HT_ rfl rfl (by kernel_rfl) (fun _ _ _ h => h) (Or.inl ⟨by rfl, ?_⟩) ?_ ?_
        rotate_left
        ·intro w'
         go_simp
         with_reducible rfl
        rotate_left
        ·simp only [aq_]
         rfl
        refine pup_ (i := 7) (N := some 27) (v := ?_) (a' := ?_) HT_ rfl rfl (by kernel_rfl) (fun _ _ _ h => h) (Or.inl ⟨by rfl, ?_⟩) ?_ ?_
        rotate_left
        ·intro w'
         go_simp
         with_reducible rfl
        rotate_left
        ·simp only [aq_]
         rfl
        exact norm_ (by simp only [putAll, Act.put, List.setIfInBounds_toArray, List.set_cons_zero, List.set_cons_succ]) (hCont (gb429) _ ⟨hHeld, (bs BK416.out), (bs BK417.out), (bs BK429.out), GW429.out, GE429.out, NB416_429.out, NB429_416.out, NB417_429.out, NB429_417.out, (by repeat (first | (with_reducible first | exact bw HB.out | refine bset ?_ (by assumption) | apply below_alloc | apply pw_below_drewN | apply below_drew1) | exact HB.out))⟩)
      ·skip
       refine box_step ?hg (N := 6) ?hd (cs := #[.string (⟨#[]⟩ : ByteArray), .string (⟨#[]⟩ : ByteArray), .int .i64 0]) (t := 34) ?hr ?_; (case hd => rfl); (case hg => rfl); (case hr => first | (go_simp; done) | (go_simp; rfl))
       intro gb429 hg w70 hbox hb
       have n0_ := Aside0.mk (blk_below (bs BK416.out) hb)
       have n1_ := Aside0.mk (blk_below (bs BK417.out) hb)
       have n2_ := Aside0.mk (below_step (by repeat (first | (with_reducible first | exact bw HB.out | refine bset ?_ (by assumption) | apply below_alloc | apply pw_below_drewN | apply below_drew1) | exact HB.out)) hb)
       have n3_ := Aside0.mk (hbox)
       have n4_ := Aside0.mk ((by rw [hg]; exact (below_size (by repeat (first | (with_reducible first | exact bw HB.out | refine bset ?_ (by assumption) | apply below_alloc | apply pw_below_drewN | apply below_drew1) | exact HB.out))) : w.heap.size ≤ gb429))
       have n5_ := Aside0.mk ((by rw [hg]; exact (below_size (by repeat (first | (with_reducible first | exact bw HB.out | refine bset ?_ (by assumption) | apply below_alloc | apply pw_below_drewN | apply below_drew1) | exact HB.out))) : w.heap.size ≤ gb429))
       have n6_ := ne_ hg BK416.out
       have n7_ := en_ hg BK416.out
       have n8_ := ne_ hg BK417.out
       have n9_ := en_ hg BK417.out
       clear BK416
       clear BK417
       clear HB
       have BK416 := n0_
       have BK417 := n1_
       have HB := n2_
       have BK429 := n3_
       have GW429 := n4_
       have GE429 := n5_
       have NB416_429 := n6_
       have NB429_416 := n7_
       have NB417_429 := n8_
       have NB429_417 := n9_
       clear n0_ n1_ n2_ n3_ n4_ n5_ n6_ n7_ n8_ n9_
       clear hb hbox hg
       refine hK.out _ _ ⟨(blk_cell BK416.out 0).trans rfl, (blk_cell BK416.out 1).trans rfl, (blk_cell BK416.out 2).trans rfl, (blk_cell BK417.out 0).trans rfl, (blk_cell BK417.out 1).trans rfl⟩ (fun hHeld => ?_)
       clear hK K
       refine norm_ (a' := ?_) ?_ ?_
       rotate_left
       ·show Act.put _ (some 6) _ = _
        simp only [aq_]
        rfl
       refine one_ (i := 1) (N := some 22) q6_7 rfl rfl (one_of HT_.out (by kernel_rfl)) (by decide) (fun K hK => ?_)
       refine goes_ Try.func23 (by kernel_rfl) rfl #[.agg #[.string a0_0, .string a0_1, .int .i64 a0_2]] (by rfl) rfl rfl (by (try simp only [mA_]); first | done | rfl | (simp only [List.length_drop, List.length_take]; rfl)) ?_
       with_reducible refine (laws_toLog.calls a0_0 a0_1 a0_2 t420 t421 t422 _ A19.out).mono ?_
       rintro e w71 ⟨rfl, hb⟩
       refine ⟨_, rfl, ?_⟩
       have n0_ := Aside0.mk (blk_below (bs BK416.out) hb)
       have n1_ := Aside0.mk (blk_below (bs BK417.out) hb)
       have n2_ := Aside0.mk (blk_below (bs BK429.out) hb)
       have n3_ := Aside0.mk (below_step (by repeat (first | (with_reducible first | exact bw HB.out | refine bset ?_ (by assumption) | apply below_alloc | apply pw_below_drewN | apply below_drew1) | exact HB.out)) hb)
       clear BK416
       clear BK417
       clear BK429
       clear HB
       have BK416 := n0_
       have BK417 := n1_
       have BK429 := n2_
       have HB := n3_
       clear n0_ n1_ n2_ n3_
       (try clear hb)
       (try clear hb2)
       (try clear hk)
       (try clear hi)
       refine hK.out _ _ ⟨(blk_cell BK416.out 0).trans rfl, (blk_cell BK416.out 1).trans rfl, (blk_cell BK416.out 2).trans rfl, (blk_cell BK417.out 0).trans rfl, (blk_cell BK417.out 1).trans rfl⟩ (fun hHeld => ?_)
       clear hK K
       refine norm_ (a' := ?_) ?_ ?_
       rotate_left
       ·show Act.put _ (some 22) _ = _
        simp only [aq_]
        rfl
       refine one_ (i := 3) (N := some 24) q6_9 rfl rfl (one_of HT_.out (by kernel_rfl)) (by decide) (fun K hK => ?_)
       refine goes_ Try.func30 (by kernel_rfl) rfl #[.agg #[.string a1_0, .string a1_1]] (by rfl) rfl rfl (by (try simp only [mA_]); first | done | rfl | (simp only [List.length_drop, List.length_take]; rfl)) ?_
       with_reducible refine (laws_toLogRecord.calls a1_0 a1_1 t423 t424 _ A20.out).mono ?_
       rintro e w72 ⟨rfl, hb⟩
       refine ⟨_, rfl, ?_⟩
       have n0_ := Aside0.mk (blk_below (bs BK416.out) hb)
       have n1_ := Aside0.mk (blk_below (bs BK417.out) hb)
       have n2_ := Aside0.mk (blk_below (bs BK429.out) hb)
       have n3_ := Aside0.mk (below_step (by repeat (first | (with_reducible first | exact bw HB.out | refine bset ?_ (by assumption) | apply below_alloc | apply pw_below_drewN | apply below_drew1) | exact HB.out)) hb)
       clear BK416
       clear BK417
       clear BK429
       clear HB
       have BK416 := n0_
       have BK417 := n1_
       have BK429 := n2_
       have HB := n3_
       clear n0_ n1_ n2_ n3_
       (try clear hb)
       (try clear hb2)
       (try clear hk)
       (try clear hi)
       refine hK.out _ _ ⟨(blk_cell BK416.out 0).trans rfl, (blk_cell BK416.out 1).trans rfl, (blk_cell BK416.out 2).trans rfl, (blk_cell BK417.out 0).trans rfl, (blk_cell BK417.out 1).trans rfl⟩ (fun hHeld => ?_)
       clear hK K
       refine norm_ (a' := ?_) ?_ ?_
       rotate_left
       ·show Act.put _ (some 24) _ = _
        simp only [aq_]
        rfl
       refine one_ (i := 4) (N := some 25) q6_13 rfl rfl (one_of HT_.out (by kernel_rfl)) (by decide) (fun K hK => ?_)
       refine goes_ Try.func29 (by kernel_rfl) rfl #[.agg #[.string t420, .string t421, .int .i64 t422], .agg #[.string t423, .string t424]] (by rfl) rfl rfl (by (try simp only [mA_]); first | done | rfl | (simp only [List.length_drop, List.length_take]; rfl)) ?_
       with_reducible refine (spec_AppendRecord.calls k t420 t421 t422 t423 t424 t425 t426 t427 t428 _ A21.out).mono ?_
       rintro e w73 ⟨rfl, hb⟩
       refine ⟨_, rfl, ?_⟩
       have n0_ := Aside0.mk (blk_below (bs BK416.out) hb)
       have n1_ := Aside0.mk (blk_below (bs BK417.out) hb)
       have n2_ := Aside0.mk (blk_below (bs BK429.out) hb)
       have n3_ := Aside0.mk (below_step (by repeat (first | (with_reducible first | exact bw HB.out | refine bset ?_ (by assumption) | apply below_alloc | apply pw_below_drewN | apply below_drew1) | exact HB.out)) hb)
       clear BK416
       clear BK417
       clear BK429
       clear HB
       have BK416 := n0_
       have BK417 := n1_
       have BK429 := n2_
       have HB := n3_
       clear n0_ n1_ n2_ n3_
       (try clear hb)
       (try clear hb2)
       (try clear hk)
       (try clear hi)
       refine hK.out _ _ ⟨(blk_cell BK416.out 0).trans rfl, (blk_cell BK416.out 1).trans rfl, (blk_cell BK416.out 2).trans rfl, (blk_cell BK417.out 0).trans rfl, (blk_cell BK417.out 1).trans rfl⟩ (fun hHeld => ?_)
       clear hK K
       refine norm_ (a' := ?_) ?_ ?_
       rotate_left
       ·show Act.put _ (some 25) _ = _
        simp only [aq_]
        rfl
       refine pup_ (i := 5) (N := some 20) (v := ?_) (a' := ?_) HT_ rfl rfl (by kernel_rfl) (fun _ _ _ h => h) (Or.inl ⟨by rfl, ?_⟩) ?_ ?_
       rotate_left
       ·intro w'
        go_simp
        with_reducible rfl
       rotate_left
       ·simp only [aq_]
        rfl
       refine pup_ (i := 6) (N := some 26) (v := ?_) (a' := ?_) HT_ rfl rfl (by kernel_rfl) (fun _ _ _ h => h) (Or.inl ⟨by rfl, ?_⟩) ?_ ?_
       rotate_left
       ·intro w'
        go_simp
        with_reducible rfl
       rotate_left
       ·simp only [aq_]
        rfl
       refine pup_ (i := 7) (N := some 27) (v := ?_) (a' := ?_) HT_ rfl rfl (by kernel_rfl) (fun _ _ _ h => h) (Or.inl ⟨by rfl, ?_⟩) ?_ ?_
       rotate_left
       ·intro w'
        go_simp
        with_reducible rfl
       rotate_left
       ·simp only [aq_]
        rfl
       exact norm_ (by simp only [putAll, Act.put, List.setIfInBounds_toArray, List.set_cons_zero, List.set_cons_succ]) (hCont (gb429) _ ⟨hHeld, (bs BK416.out), (bs BK417.out), (bs BK429.out), GW429.out, GE429.out, NB416_429.out, NB429_416.out, NB417_429.out, NB429_417.out, (by repeat (first | (with_reducible first | exact bw HB.out | refine bset ?_ (by assumption) | apply below_alloc | apply pw_below_drewN | apply below_drew1) | exact HB.out))⟩)
     rintro gb429 w74 ⟨hS_, h0_, h1_, h2_, h3_, h4_, h5_, h6_, h7_, h8_, h9_⟩
     have n0_ : Aside0 (w74.heap[gb416]? = some (.cells #[.string a0_0, .string a0_1, .int .i64 a0_2] 32 (0, 0))) := ⟨h0_⟩
     have n1_ : Aside0 (w74.heap[gb417]? = some (.cells #[.string a1_0, .string a1_1] 44 (0, 0))) := ⟨h1_⟩
     have n2_ : Aside0 (w74.heap[gb429]? = some (.cells #[.string (⟨#[]⟩ : ByteArray), .string (⟨#[]⟩ : ByteArray), .int .i64 0] 34 (0, 0))) := ⟨h2_⟩
     have n3_ : Aside0 (w.heap.size ≤ gb429) := ⟨h3_⟩
     have n4_ : Aside0 (w.heap.size ≤ gb429) := ⟨h4_⟩
     have n5_ : Aside0 (gb416 ≠ gb429) := ⟨h5_⟩
     have n6_ : Aside0 (gb429 ≠ gb416) := ⟨h6_⟩
     have n7_ : Aside0 (gb417 ≠ gb429) := ⟨h7_⟩
     have n8_ : Aside0 (gb429 ≠ gb417) := ⟨h8_⟩
     have n9_ : Aside0 (Below w.heap.size w w74) := ⟨h9_⟩
     clear BK416
     clear BK417
     clear HB
     clear h0_ h1_ h2_ h3_ h4_ h5_ h6_ h7_ h8_ h9_
     have BK416 := n0_
     have BK417 := n1_
     have BK429 := n2_
     have GW429 := n3_
     have GE429 := n4_
     have NB416_429 := n5_
     have NB429_416 := n6_
     have NB417_429 := n7_
     have NB429_417 := n8_
     have HB := n9_
     clear n0_ n1_ n2_ n3_ n4_ n5_ n6_ n7_ n8_ n9_
     have hHeld : w74.cell? ⟨gb416, 0, none⟩ = some (.string a0_0) ∧ w74.cell? ⟨gb416, 1, none⟩ = some (.string a0_1) ∧ w74.cell? ⟨gb416, 2, none⟩ = some (.int .i64 a0_2) ∧ w74.cell? ⟨gb417, 0, none⟩ = some (.string a1_0) ∧ w74.cell? ⟨gb417, 1, none⟩ = some (.string a1_1) := hS_
     refine norm_ (a' := ?_) ?_ ?_
     rotate_left
     ·simp only [putAll, Act.put, List.setIfInBounds_toArray, List.set_cons_zero, List.set_cons_succ]
      rfl
     refine one_ (i := 9) (N := none) q6_16 rfl rfl (one_of HT_.out (by kernel_rfl)) (by decide) (fun K hK => ?_)
     have hs75 : w74.cell? ⟨gb429, 0, none⟩ = some (.string (⟨#[]⟩ : ByteArray)) := (blk_cell BK429.out 0).trans rfl
     have hfs75 := blk_frozen BK429.out 0
     have hns75_0 := NB416_429.out
     have hns75_1 := NB417_429.out
     have hms75_0 := NB429_416.out
     have hms75_1 := NB429_417.out
     have hs76 : w74.cell? ⟨gb429, 1, none⟩ = some (.string (⟨#[]⟩ : ByteArray)) := (blk_cell BK429.out 1).trans rfl
     have hfs76 := blk_frozen BK429.out 1
     have hns76_0 := NB416_429.out
     have hns76_1 := NB417_429.out
     have hms76_0 := NB429_416.out
     have hms76_1 := NB429_417.out
     have hs77 : w74.cell? ⟨gb429, 2, none⟩ = some (.int .i64 0) := (blk_cell BK429.out 2).trans rfl
     have hfs77 := blk_frozen BK429.out 2
     have hns77_0 := NB416_429.out
     have hns77_1 := NB417_429.out
     have hms77_0 := NB429_416.out
     have hms77_1 := NB429_417.out
     refine skip_ (w1 := ?_) (by rfl) rfl ?_ ?_
     rotate_left
     ·go_simp
      rfl
     refine hK.out _ _ ⟨((cell_far (p := ⟨gb429, _, none⟩) NB416_429.out _).trans (((cell_far (p := ⟨gb429, _, none⟩) NB416_429.out _).trans (((cell_far (p := ⟨gb429, _, none⟩) NB416_429.out _).trans (hHeld.1)))))), ((cell_far (p := ⟨gb429, _, none⟩) NB416_429.out _).trans (((cell_far (p := ⟨gb429, _, none⟩) NB416_429.out _).trans (((cell_far (p := ⟨gb429, _, none⟩) NB416_429.out _).trans (hHeld.2.1)))))), ((cell_far (p := ⟨gb429, _, none⟩) NB416_429.out _).trans (((cell_far (p := ⟨gb429, _, none⟩) NB416_429.out _).trans (((cell_far (p := ⟨gb429, _, none⟩) NB416_429.out _).trans (hHeld.2.2.1)))))), ((cell_far (p := ⟨gb429, _, none⟩) NB417_429.out _).trans (((cell_far (p := ⟨gb429, _, none⟩) NB417_429.out _).trans (((cell_far (p := ⟨gb429, _, none⟩) NB417_429.out _).trans (hHeld.2.2.2.1)))))), ((cell_far (p := ⟨gb429, _, none⟩) NB417_429.out _).trans (((cell_far (p := ⟨gb429, _, none⟩) NB417_429.out _).trans (((cell_far (p := ⟨gb429, _, none⟩) NB417_429.out _).trans (hHeld.2.2.2.2))))))⟩ (fun hHeld => ?_)
     clear hK K
     refine pup_ (i := 10) (N := some 7) (v := ?_) (a' := ?_) HT_ rfl rfl (by kernel_rfl) (fun _ _ _ h => h) (Or.inl ⟨by rfl, ?_⟩) ?_ ?_
     rotate_left
     ·intro w'
      go_simp
      with_reducible rfl
     rotate_left
     ·simp only [aq_]
      rfl
     refine done_ (done_of HT_.out (by kernel_rfl)) ?_
     try go_wp2
     have n0_ : Aside0 ((((w74.setCell ⟨gb429, 0, none⟩ (.string t425)).setCell ⟨gb429, 1, none⟩ (.string t426)).setCell ⟨gb429, 2, none⟩ (.int .i64 t427)).heap[gb416]? = some (.cells #[.string a0_0, .string a0_1, .int .i64 a0_2] 32 (0, 0))) := ⟨by (with_reducible repeat (first | refine blk_drewN ?_ _ | refine blk_drew ?_ | refine blk_alloc ?_ _)); refine blk_far ?_ NB416_429.out _; (with_reducible repeat (first | refine blk_drewN ?_ _ | refine blk_drew ?_ | refine blk_alloc ?_ _)); refine blk_far ?_ NB416_429.out _; (with_reducible repeat (first | refine blk_drewN ?_ _ | refine blk_drew ?_ | refine blk_alloc ?_ _)); refine blk_far ?_ NB416_429.out _; exact bs BK416.out⟩
     have n1_ : Aside0 ((((w74.setCell ⟨gb429, 0, none⟩ (.string t425)).setCell ⟨gb429, 1, none⟩ (.string t426)).setCell ⟨gb429, 2, none⟩ (.int .i64 t427)).heap[gb417]? = some (.cells #[.string a1_0, .string a1_1] 44 (0, 0))) := ⟨by (with_reducible repeat (first | refine blk_drewN ?_ _ | refine blk_drew ?_ | refine blk_alloc ?_ _)); refine blk_far ?_ NB417_429.out _; (with_reducible repeat (first | refine blk_drewN ?_ _ | refine blk_drew ?_ | refine blk_alloc ?_ _)); refine blk_far ?_ NB417_429.out _; (with_reducible repeat (first | refine blk_drewN ?_ _ | refine blk_drew ?_ | refine blk_alloc ?_ _)); refine blk_far ?_ NB417_429.out _; exact bs BK417.out⟩
     have n2_ : Aside0 ((((w74.setCell ⟨gb429, 0, none⟩ (.string t425)).setCell ⟨gb429, 1, none⟩ (.string t426)).setCell ⟨gb429, 2, none⟩ (.int .i64 t427)).heap[gb429]? = some (.cells #[.string t425, .string t426, .int .i64 t427] 34 (0, 0))) := ⟨by (with_reducible repeat (first | refine blk_drewN ?_ _ | refine blk_drew ?_ | refine blk_alloc ?_ _)); refine blk_put (cs := #[.string t425, .string t426, .int .i64 0]) ?_ 2 _ rfl; (with_reducible repeat (first | refine blk_drewN ?_ _ | refine blk_drew ?_ | refine blk_alloc ?_ _)); refine blk_put (cs := #[.string t425, .string (⟨#[]⟩ : ByteArray), .int .i64 0]) ?_ 1 _ rfl; (with_reducible repeat (first | refine blk_drewN ?_ _ | refine blk_drew ?_ | refine blk_alloc ?_ _)); refine blk_put (cs := #[.string (⟨#[]⟩ : ByteArray), .string (⟨#[]⟩ : ByteArray), .int .i64 0]) ?_ 0 _ rfl; exact bs BK429.out⟩
     have n3_ : Aside0 (Below w.heap.size w (((w74.setCell ⟨gb429, 0, none⟩ (.string t425)).setCell ⟨gb429, 1, none⟩ (.string t426)).setCell ⟨gb429, 2, none⟩ (.int .i64 t427))) := ⟨by repeat (first | (with_reducible first | exact bw HB.out | refine bset ?_ (by assumption) | apply below_alloc | apply pw_below_drewN | apply below_drew1) | exact HB.out)⟩
     (try clear BK416)
     (try clear BK417)
     (try clear BK429)
     (try clear HB)
     (try simp only [setCell_drewN])
     generalize (((w74.setCell ⟨gb429, 0, none⟩ (.string t425)).setCell ⟨gb429, 1, none⟩ (.string t426)).setCell ⟨gb429, 2, none⟩ (.int .i64 t427)) = w78 at n0_ n1_ n2_ n3_ ⊢
     have BK416 := n0_
     have BK417 := n1_
     have BK429 := n2_
     have HB := n3_
     clear n0_ n1_ n2_ n3_
     have n0_ := Aside0.mk (blk_drew BK416.out)
     have n1_ := Aside0.mk (blk_drew BK417.out)
     have n2_ := Aside0.mk (blk_drew BK429.out)
     have n3_ := Aside0.mk (below_drew1 HB.out)
     clear BK416
     clear BK417
     clear BK429
     clear HB
     have BK416 := n0_
     have BK417 := n1_
     have BK429 := n2_
     have HB := n3_
     clear n0_ n1_ n2_ n3_
     refine start_ (n := 11) (S := fun w' => w'.cell? ⟨gb416, 0, none⟩ = some (.string a0_0) ∧ w'.cell? ⟨gb416, 1, none⟩ = some (.string a0_1) ∧ w'.cell? ⟨gb416, 2, none⟩ = some (.int .i64 a0_2) ∧ w'.cell? ⟨gb417, 0, none⟩ = some (.string a1_0) ∧ w'.cell? ⟨gb417, 1, none⟩ = some (.string a1_1)) (ds := []) q6_0 (by kernel_rfl) rfl rfl ⟨(blk_cell BK416.out 0).trans rfl, (blk_cell BK416.out 1).trans rfl, (blk_cell BK416.out 2).trans rfl, (blk_cell BK417.out 0).trans rfl, (blk_cell BK417.out 1).trans rfl⟩ (fun hHeld => ?_); refine with_tabW laws_FnExactAppendRecord.tab9 laws_FnExactAppendRecord.bits9 (fun HT_ HW_ => ?_)
     generalize w78.drew = w79 at BK416 BK417 BK429 HB hHeld ⊢
     refine take_ (i := 0) (N := some 29) (v := ?_) (a' := ?_) q6_1 rfl rfl (take_ofW HT_.out HW_.out (by kernel_rfl)) (fun _ _ _ h => h) (Or.inl ⟨by rfl, ?_⟩) hHeld ?_ ?_
     rotate_left
     ·rintro w' ⟨s0, s1, s2, s3, s4⟩
      go_simp
      with_reducible rfl
     rotate_left
     ·simp only [aq_]
      rfl
     refine take_ (i := 2) (N := some 31) (v := ?_) (a' := ?_) q6_2 rfl rfl (take_ofW HT_.out HW_.out (by kernel_rfl)) (fun _ _ _ h => h) (Or.inl ⟨by rfl, ?_⟩) hHeld ?_ ?_
     rotate_left
     ·rintro w' ⟨s0, s1, s2, s3, s4⟩
      go_simp
      with_reducible rfl
     rotate_left
     ·simp only [aq_]
      rfl
     refine join_ (σ := Nat) 2 q6_3 (fun s_ => [(30, .agg #[.string t430, .string t431, .int .i64 t432]), (32, .agg #[.string t433, .string t434]), (33, .tuple #[.agg #[.string t435, .string t436, .int .i64 t437], .int .i64 t438]), (8, .pointer (some ⟨s_, 0, none⟩)), (28, .tuple #[.agg #[.string t435, .string t436, .int .i64 t437], .int .i64 t438]), (34, .agg #[.string t435, .string t436, .int .i64 t437]), (35, .int .i64 t438)]) (fun s_ w' => (w'.cell? ⟨gb416, 0, none⟩ = some (.string a0_0) ∧ w'.cell? ⟨gb416, 1, none⟩ = some (.string a0_1) ∧ w'.cell? ⟨gb416, 2, none⟩ = some (.int .i64 a0_2) ∧ w'.cell? ⟨gb417, 0, none⟩ = some (.string a1_0) ∧ w'.cell? ⟨gb417, 1, none⟩ = some (.string a1_1)) ∧ (w'.heap[gb416]? = some (.cells #[.string a0_0, .string a0_1, .int .i64 a0_2] 32 (0, 0))) ∧ (w'.heap[gb417]? = some (.cells #[.string a1_0, .string a1_1] 44 (0, 0))) ∧ (w'.heap[gb429]? = some (.cells #[.string t425, .string t426, .int .i64 t427] 34 (0, 0))) ∧ (w'.heap[s_]? = some (.cells #[.string (⟨#[]⟩ : ByteArray), .string (⟨#[]⟩ : ByteArray), .int .i64 0] 34 (0, 0))) ∧ (w.heap.size ≤ s_) ∧ (w.heap.size ≤ s_) ∧ (gb416 ≠ s_) ∧ (s_ ≠ gb416) ∧ (gb417 ≠ s_) ∧ (s_ ≠ gb417) ∧ (gb429 ≠ s_) ∧ (s_ ≠ gb429) ∧ (Below w.heap.size w w')) ?_ ?_
     rotate_left
     ·intro hCont
      refine two_ (i := 1) (j := 8) (Ni := some 30) (Nj := some 8) q6_4 q6_5 rfl rfl rfl rfl (two_of HT_.out (by kernel_rfl)) (by decide) (by decide) (fun K hK => ?_) (fun K hK => ?_)
      ·skip
       refine goes_ Try.func23 (by kernel_rfl) rfl #[.agg #[.string a0_0, .string a0_1, .int .i64 a0_2]] (by rfl) rfl rfl (by (try simp only [mA_]); first | done | rfl | (simp only [List.length_drop, List.length_take]; rfl)) ?_
       with_reducible refine (laws_toLog.calls a0_0 a0_1 a0_2 t430 t431 t432 _ A22.out).mono ?_
       rintro e w80 ⟨rfl, hb⟩
       refine ⟨_, rfl, ?_⟩
       have n0_ := Aside0.mk (blk_below (bs BK416.out) hb)
       have n1_ := Aside0.mk (blk_below (bs BK417.out) hb)
       have n2_ := Aside0.mk (blk_below (bs BK429.out) hb)
       have n3_ := Aside0.mk (below_step (by repeat (first | (with_reducible first | exact bw HB.out | refine bset ?_ (by assumption) | apply below_alloc | apply pw_below_drewN | apply below_drew1) | exact HB.out)) hb)
       clear BK416
       clear BK417
       clear BK429
       clear HB
       have BK416 := n0_
       have BK417 := n1_
       have BK429 := n2_
       have HB := n3_
       clear n0_ n1_ n2_ n3_
       (try clear hb)
       (try clear hb2)
       (try clear hk)
       (try clear hi)
       refine hK.out _ _ ⟨(blk_cell BK416.out 0).trans rfl, (blk_cell BK416.out 1).trans rfl, (blk_cell BK416.out 2).trans rfl, (blk_cell BK417.out 0).trans rfl, (blk_cell BK417.out 1).trans rfl⟩ (fun hHeld => ?_)
       clear hK K
       refine norm_ (a' := ?_) ?_ ?_
       rotate_left
       ·show Act.put _ (some 30) _ = _
        simp only [aq_]
        rfl
       refine two_ (i := 3) (j := 8) (Ni := some 32) (Nj := some 8) q6_6 q6_7 rfl rfl rfl rfl (two_of HT_.out (by kernel_rfl)) (by decide) (by decide) (fun K hK => ?_) (fun K hK => ?_)
       ·skip
        refine goes_ Try.func30 (by kernel_rfl) rfl #[.agg #[.string a1_0, .string a1_1]] (by rfl) rfl rfl (by (try simp only [mA_]); first | done | rfl | (simp only [List.length_drop, List.length_take]; rfl)) ?_
        with_reducible refine (laws_toLogRecord.calls a1_0 a1_1 t433 t434 _ A23.out).mono ?_
        rintro e w81 ⟨rfl, hb⟩
        refine ⟨_, rfl, ?_⟩
        have n0_ := Aside0.mk (blk_below (bs BK416.out) hb)
        have n1_ := Aside0.mk (blk_below (bs BK417.out) hb)
        have n2_ := Aside0.mk (blk_below (bs BK429.out) hb)
        have n3_ := Aside0.mk (below_step (by repeat (first | (with_reducible first | exact bw HB.out | refine bset ?_ (by assumption) | apply below_alloc | apply pw_below_drewN | apply below_drew1) | exact HB.out)) hb)
        clear BK416
        clear BK417
        clear BK429
        clear HB
        have BK416 := n0_
        have BK417 := n1_
        have BK429 := n2_
        have HB := n3_
        clear n0_ n1_ n2_ n3_
        (try clear hb)
        (try clear hb2)
        (try clear hk)
        (try clear hi)
        refine hK.out _ _ ⟨(blk_cell BK416.out 0).trans rfl, (blk_cell BK416.out 1).trans rfl, (blk_cell BK416.out 2).trans rfl, (blk_cell BK417.out 0).trans rfl, (blk_cell BK417.out 1).trans rfl⟩ (fun hHeld => ?_)
        clear hK K
        refine norm_ (a' := ?_) ?_ ?_
        rotate_left
        ·show Act.put _ (some 32) _ = _
         simp only [aq_]
         rfl
        refine two_ (i := 4) (j := 8) (Ni := some 33) (Nj := some 8) q6_8 q6_9 rfl rfl rfl rfl (two_of HT_.out (by kernel_rfl)) (by decide) (by decide) (fun K hK => ?_) (fun K hK => ?_)
        ·skip
         refine goes_ Try.func31 (by kernel_rfl) rfl #[.agg #[.string t430, .string t431, .int .i64 t432], .agg #[.string t433, .string t434]] (by rfl) rfl rfl (by (try simp only [mA_]); first | done | rfl | (simp only [List.length_drop, List.length_take]; rfl)) ?_
         with_reducible refine (impl_AppendRecord.calls k t430 t431 t432 t433 t434 t435 t436 t437 t438 _ A24.out).mono ?_
         rintro e w82 ⟨rfl, hb⟩
         refine ⟨_, rfl, ?_⟩
         have n0_ := Aside0.mk (blk_below (bs BK416.out) hb)
         have n1_ := Aside0.mk (blk_below (bs BK417.out) hb)
         have n2_ := Aside0.mk (blk_below (bs BK429.out) hb)
         have n3_ := Aside0.mk (below_step (by repeat (first | (with_reducible first | exact bw HB.out | refine bset ?_ (by assumption) | apply below_alloc | apply pw_below_drewN | apply below_drew1) | exact HB.out)) hb)
         clear BK416
         clear BK417
         clear BK429
         clear HB
         have BK416 := n0_
         have BK417 := n1_
         have BK429 := n2_
         have HB := n3_
         clear n0_ n1_ n2_ n3_
         (try clear hb)
         (try clear hb2)
         (try clear hk)
         (try clear hi)
         refine hK.out _ _ ⟨(blk_cell BK416.out 0).trans rfl, (blk_cell BK416.out 1).trans rfl, (blk_cell BK416.out 2).trans rfl, (blk_cell BK417.out 0).trans rfl, (blk_cell BK417.out 1).trans rfl⟩ (fun hHeld => ?_)
         clear hK K
         refine norm_ (a' := ?_) ?_ ?_
         rotate_left
         ·show Act.put _ (some 33) _ = _
          simp only [aq_]
          rfl
         refine pup_ (i := 5) (N := some 28) (v := ?_) (a' := ?_) HT_ rfl rfl (by kernel_rfl) (fun _ _ _ h => h) (Or.inl ⟨by rfl, ?_⟩) ?_ ?_
         rotate_left
         ·intro w'
          go_simp
          with_reducible rfl
         rotate_left
         ·simp only [aq_]
          rfl
         refine pup_ (i := 6) (N := some 34) (v := ?_) (a' := ?_) HT_ rfl rfl (by kernel_rfl) (fun _ _ _ h => h) (Or.inl ⟨by rfl, ?_⟩) ?_ ?_
         rotate_left
         ·intro w'
          go_simp
          with_reducible rfl
         rotate_left
         ·simp only [aq_]
          rfl
         refine pup_ (i := 7) (N := some 35) (v := ?_) (a' := ?_) HT_ rfl rfl (by kernel_rfl) (fun _ _ _ h => h) (Or.inl ⟨by rfl, ?_⟩) ?_ ?_
         rotate_left
         ·intro w'
          go_simp
          with_reducible rfl
         rotate_left
         ·simp only [aq_]
          rfl
         refine one_ (i := 8) (N := some 8) q6_3 rfl rfl (one_of HT_.out (by kernel_rfl)) (by decide) (fun K hK => ?_)
         refine box_step ?hg (N := 8) ?hd (cs := #[.string (⟨#[]⟩ : ByteArray), .string (⟨#[]⟩ : ByteArray), .int .i64 0]) (t := 34) ?hr ?_; (case hd => rfl); (case hg => rfl); (case hr => first | (go_simp; done) | (go_simp; rfl))
         intro gb439 hg w83 hbox hb
         have n0_ := Aside0.mk (blk_below (bs BK416.out) hb)
         have n1_ := Aside0.mk (blk_below (bs BK417.out) hb)
         have n2_ := Aside0.mk (blk_below (bs BK429.out) hb)
         have n3_ := Aside0.mk (below_step (by repeat (first | (with_reducible first | exact bw HB.out | refine bset ?_ (by assumption) | apply below_alloc | apply pw_below_drewN | apply below_drew1) | exact HB.out)) hb)
         have n4_ := Aside0.mk (hbox)
         have n5_ := Aside0.mk ((by rw [hg]; exact (below_size (by repeat (first | (with_reducible first | exact bw HB.out | refine bset ?_ (by assumption) | apply below_alloc | apply pw_below_drewN | apply below_drew1) | exact HB.out))) : w.heap.size ≤ gb439))
         have n6_ := Aside0.mk ((by rw [hg]; exact (below_size (by repeat (first | (with_reducible first | exact bw HB.out | refine bset ?_ (by assumption) | apply below_alloc | apply pw_below_drewN | apply below_drew1) | exact HB.out))) : w.heap.size ≤ gb439))
         have n7_ := ne_ hg BK416.out
         have n8_ := en_ hg BK416.out
         have n9_ := ne_ hg BK417.out
         have n10_ := en_ hg BK417.out
         have n11_ := ne_ hg BK429.out
         have n12_ := en_ hg BK429.out
         clear BK416
         clear BK417
         clear BK429
         clear HB
         have BK416 := n0_
         have BK417 := n1_
         have BK429 := n2_
         have HB := n3_
         have BK439 := n4_
         have GW439 := n5_
         have GE439 := n6_
         have NB416_439 := n7_
         have NB439_416 := n8_
         have NB417_439 := n9_
         have NB439_417 := n10_
         have NB429_439 := n11_
         have NB439_429 := n12_
         clear n0_ n1_ n2_ n3_ n4_ n5_ n6_ n7_ n8_ n9_ n10_ n11_ n12_
         clear hb hbox hg
         refine hK.out _ _ ⟨(blk_cell BK416.out 0).trans rfl, (blk_cell BK416.out 1).trans rfl, (blk_cell BK416.out 2).trans rfl, (blk_cell BK417.out 0).trans rfl, (blk_cell BK417.out 1).trans rfl⟩ (fun hHeld => ?_)
         clear hK K
         refine norm_ (a' := ?_) ?_ ?_
         rotate_left
         ·show Act.put _ (some 8) _ = _
          simp only [aq_]
          rfl
         exact norm_ (by simp only [putAll, Act.put, List.setIfInBounds_toArray, List.set_cons_zero, List.set_cons_succ]) (hCont (gb439) _ ⟨hHeld, (bs BK416.out), (bs BK417.out), (bs BK429.out), (bs BK439.out), GW439.out, GE439.out, NB416_439.out, NB439_416.out, NB417_439.out, NB439_417.out, NB429_439.out, NB439_429.out, (by repeat (first | (with_reducible first | exact bw HB.out | refine bset ?_ (by assumption) | apply below_alloc | apply pw_below_drewN | apply below_drew1) | exact HB.out))⟩)
        ·skip
         refine box_step ?hg (N := 8) ?hd (cs := #[.string (⟨#[]⟩ : ByteArray), .string (⟨#[]⟩ : ByteArray), .int .i64 0]) (t := 34) ?hr ?_; (case hd => rfl); (case hg => rfl); (case hr => first | (go_simp; done) | (go_simp; rfl))
         intro gb439 hg w82 hbox hb
         have n0_ := Aside0.mk (blk_below (bs BK416.out) hb)
         have n1_ := Aside0.mk (blk_below (bs BK417.out) hb)
         have n2_ := Aside0.mk (blk_below (bs BK429.out) hb)
         have n3_ := Aside0.mk (below_step (by repeat (first | (with_reducible first | exact bw HB.out | refine bset ?_ (by assumption) | apply below_alloc | apply pw_below_drewN | apply below_drew1) | exact HB.out)) hb)
         have n4_ := Aside0.mk (hbox)
         have n5_ := Aside0.mk ((by rw [hg]; exact (below_size (by repeat (first | (with_reducible first | exact bw HB.out | refine bset ?_ (by assumption) | apply below_alloc | apply pw_below_drewN | apply below_drew1) | exact HB.out))) : w.heap.size ≤ gb439))
         have n6_ := Aside0.mk ((by rw [hg]; exact (below_size (by repeat (first | (with_reducible first | exact bw HB.out | refine bset ?_ (by assumption) | apply below_alloc | apply pw_below_drewN | apply below_drew1) | exact HB.out))) : w.heap.size ≤ gb439))
         have n7_ := ne_ hg BK416.out
         have n8_ := en_ hg BK416.out
         have n9_ := ne_ hg BK417.out
         have n10_ := en_ hg BK417.out
         have n11_ := ne_ hg BK429.out
         have n12_ := en_ hg BK429.out
         clear BK416
         clear BK417
         clear BK429
         clear HB
         have BK416 := n0_
         have BK417 := n1_
         have BK429 := n2_
         have HB := n3_
         have BK439 := n4_
         have GW439 := n5_
         have GE439 := n6_
         have NB416_439 := n7_
         have NB439_416 := n8_
         have NB417_439 := n9_
         have NB439_417 := n10_
         have NB429_439 := n11_
         have NB439_429 := n12_
         clear n0_ n1_ n2_ n3_ n4_ n5_ n6_ n7_ n8_ n9_ n10_ n11_ n12_
         clear hb hbox hg
         refine hK.out _ _ ⟨(blk_cell BK416.out 0).trans rfl, (blk_cell BK416.out 1).trans rfl, (blk_cell BK416.out 2).trans rfl, (blk_cell BK417.out 0).trans rfl, (blk_cell BK417.out 1).trans rfl⟩ (fun hHeld => ?_)
         clear hK K
         refine norm_ (a' := ?_) ?_ ?_
         rotate_left
         ·show Act.put _ (some 8) _ = _
          simp only [aq_]
          rfl
         refine one_ (i := 4) (N := some 33) q6_13 rfl rfl (one_of HT_.out (by kernel_rfl)) (by decide) (fun K hK => ?_)
         refine goes_ Try.func31 (by kernel_rfl) rfl #[.agg #[.string t430, .string t431, .int .i64 t432], .agg #[.string t433, .string t434]] (by rfl) rfl rfl (by (try simp only [mA_]); first | done | rfl | (simp only [List.length_drop, List.length_take]; rfl)) ?_
         with_reducible refine (impl_AppendRecord.calls k t430 t431 t432 t433 t434 t435 t436 t437 t438 _ A24.out).mono ?_
         rintro e w83 ⟨rfl, hb⟩
         refine ⟨_, rfl, ?_⟩
         have n0_ := Aside0.mk (blk_below (bs BK416.out) hb)
         have n1_ := Aside0.mk (blk_below (bs BK417.out) hb)
         have n2_ := Aside0.mk (blk_below (bs BK429.out) hb)
         have n3_ := Aside0.mk (blk_below (bs BK439.out) hb)
         have n4_ := Aside0.mk (below_step (by repeat (first | (with_reducible first | exact bw HB.out | refine bset ?_ (by assumption) | apply below_alloc | apply pw_below_drewN | apply below_drew1) | exact HB.out)) hb)
         clear BK416
         clear BK417
         clear BK429
         clear BK439
         clear HB
         have BK416 := n0_
         have BK417 := n1_
         have BK429 := n2_
         have BK439 := n3_
         have HB := n4_
         clear n0_ n1_ n2_ n3_ n4_
         (try clear hb)
         (try clear hb2)
         (try clear hk)
         (try clear hi)
         refine hK.out _ _ ⟨(blk_cell BK416.out 0).trans rfl, (blk_cell BK416.out 1).trans rfl, (blk_cell BK416.out 2).trans rfl, (blk_cell BK417.out 0).trans rfl, (blk_cell BK417.out 1).trans rfl⟩ (fun hHeld => ?_)
         clear hK K
         refine norm_ (a' := ?_) ?_ ?_
         rotate_left
         ·show Act.put _ (some 33) _ = _
          simp only [aq_]
          rfl
         refine pup_ (i := 5) (N := some 28) (v := ?_) (a' := ?_) HT_ rfl rfl (by kernel_rfl) (fun _ _ _ h => h) (Or.inl ⟨by rfl, ?_⟩) ?_ ?_
         rotate_left
         ·intro w'
          go_simp
          with_reducible rfl
         rotate_left
         ·simp only [aq_]
          rfl
         refine pup_ (i := 6) (N := some 34) (v := ?_) (a' := ?_) HT_ rfl rfl (by kernel_rfl) (fun _ _ _ h => h) (Or.inl ⟨by rfl, ?_⟩) ?_ ?_
         rotate_left
         ·intro w'
          go_simp
          with_reducible rfl
         rotate_left
         ·simp only [aq_]
          rfl
         refine pup_ (i := 7) (N := some 35) (v := ?_) (a' := ?_) HT_ rfl rfl (by kernel_rfl) (fun _ _ _ h => h) (Or.inl ⟨by rfl, ?_⟩) ?_ ?_
         rotate_left
         ·intro w'
          go_simp
          with_reducible rfl
         rotate_left
         ·simp only [aq_]
          rfl
         exact norm_ (by simp only [putAll, Act.put, List.setIfInBounds_toArray, List.set_cons_zero, List.set_cons_succ]) (hCont (gb439) _ ⟨hHeld, (bs BK416.out), (bs BK417.out), (bs BK429.out), (bs BK439.out), GW439.out, GE439.out, NB416_439.out, NB439_416.out, NB417_439.out, NB439_417.out, NB429_439.out, NB439_429.out, (by repeat (first | (with_reducible first | exact bw HB.out | refine bset ?_ (by assumption) | apply below_alloc | apply pw_below_drewN | apply below_drew1) | exact HB.out))⟩)
       ·skip
        refine box_step ?hg (N := 8) ?hd (cs := #[.string (⟨#[]⟩ : ByteArray), .string (⟨#[]⟩ : ByteArray), .int .i64 0]) (t := 34) ?hr ?_; (case hd => rfl); (case hg => rfl); (case hr => first | (go_simp; done) | (go_simp; rfl))
        intro gb439 hg w81 hbox hb
        have n0_ := Aside0.mk (blk_below (bs BK416.out) hb)
        have n1_ := Aside0.mk (blk_below (bs BK417.out) hb)
        have n2_ := Aside0.mk (blk_below (bs BK429.out) hb)
        have n3_ := Aside0.mk (below_step (by repeat (first | (with_reducible first | exact bw HB.out | refine bset ?_ (by assumption) | apply below_alloc | apply pw_below_drewN | apply below_drew1) | exact HB.out)) hb)
        have n4_ := Aside0.mk (hbox)
        have n5_ := Aside0.mk ((by rw [hg]; exact (below_size (by repeat (first | (with_reducible first | exact bw HB.out | refine bset ?_ (by assumption) | apply below_alloc | apply pw_below_drewN | apply below_drew1) | exact HB.out))) : w.heap.size ≤ gb439))
        have n6_ := Aside0.mk ((by rw [hg]; exact (below_size (by repeat (first | (with_reducible first | exact bw HB.out | refine bset ?_ (by assumption) | apply below_alloc | apply pw_below_drewN | apply below_drew1) | exact HB.out))) : w.heap.size ≤ gb439))
        have n7_ := ne_ hg BK416.out
        have n8_ := en_ hg BK416.out
        have n9_ := ne_ hg BK417.out
        have n10_ := en_ hg BK417.out
        have n11_ := ne_ hg BK429.out
        have n12_ := en_ hg BK429.out
        clear BK416
        clear BK417
        clear BK429
        clear HB
        have BK416 := n0_
        have BK417 := n1_
        have BK429 := n2_
        have HB := n3_
        have BK439 := n4_
        have GW439 := n5_
        have GE439 := n6_
        have NB416_439 := n7_
        have NB439_416 := n8_
        have NB417_439 := n9_
        have NB439_417 := n10_
        have NB429_439 := n11_
        have NB439_429 := n12_
        clear n0_ n1_ n2_ n3_ n4_ n5_ n6_ n7_ n8_ n9_ n10_ n11_ n12_
        clear hb hbox hg
        refine hK.out _ _ ⟨(blk_cell BK416.out 0).trans rfl, (blk_cell BK416.out 1).trans rfl, (blk_cell BK416.out 2).trans rfl, (blk_cell BK417.out 0).trans rfl, (blk_cell BK417.out 1).trans rfl⟩ (fun hHeld => ?_)
        clear hK K
        refine norm_ (a' := ?_) ?_ ?_
        rotate_left
        ·show Act.put _ (some 8) _ = _
         simp only [aq_]
         rfl
        refine one_ (i := 3) (N := some 32) q6_9 rfl rfl (one_of HT_.out (by kernel_rfl)) (by decide) (fun K hK => ?_)
        refine goes_ Try.func30 (by kernel_rfl) rfl #[.agg #[.string a1_0, .string a1_1]] (by rfl) rfl rfl (by (try simp only [mA_]); first | done | rfl | (simp only [List.length_drop, List.length_take]; rfl)) ?_
        with_reducible refine (laws_toLogRecord.calls a1_0 a1_1 t433 t434 _ A23.out).mono ?_
        rintro e w82 ⟨rfl, hb⟩
        refine ⟨_, rfl, ?_⟩
        have n0_ := Aside0.mk (blk_below (bs BK416.out) hb)
        have n1_ := Aside0.mk (blk_below (bs BK417.out) hb)
        have n2_ := Aside0.mk (blk_below (bs BK429.out) hb)
        have n3_ := Aside0.mk (blk_below (bs BK439.out) hb)
        have n4_ := Aside0.mk (below_step (by repeat (first | (with_reducible first | exact bw HB.out | refine bset ?_ (by assumption) | apply below_alloc | apply pw_below_drewN | apply below_drew1) | exact HB.out)) hb)
        clear BK416
        clear BK417
        clear BK429
        clear BK439
        clear HB
        have BK416 := n0_
        have BK417 := n1_
        have BK429 := n2_
        have BK439 := n3_
        have HB := n4_
        clear n0_ n1_ n2_ n3_ n4_
        (try clear hb)
        (try clear hb2)
        (try clear hk)
        (try clear hi)
        refine hK.out _ _ ⟨(blk_cell BK416.out 0).trans rfl, (blk_cell BK416.out 1).trans rfl, (blk_cell BK416.out 2).trans rfl, (blk_cell BK417.out 0).trans rfl, (blk_cell BK417.out 1).trans rfl⟩ (fun hHeld => ?_)
        clear hK K
        refine norm_ (a' := ?_) ?_ ?_
        rotate_left
        ·show Act.put _ (some 32) _ = _
         simp only [aq_]
         rfl
        refine one_ (i := 4) (N := some 33) q6_13 rfl rfl (one_of HT_.out (by kernel_rfl)) (by decide) (fun K hK => ?_)
        refine goes_ Try.func31 (by kernel_rfl) rfl #[.agg #[.string t430, .string t431, .int .i64 t432], .agg #[.string t433, .string t434]] (by rfl) rfl rfl (by (try simp only [mA_]); first | done | rfl | (simp only [List.length_drop, List.length_take]; rfl)) ?_
        with_reducible refine (impl_AppendRecord.calls k t430 t431 t432 t433 t434 t435 t436 t437 t438 _ A24.out).mono ?_
        rintro e w83 ⟨rfl, hb⟩
        refine ⟨_, rfl, ?_⟩
        have n0_ := Aside0.mk (blk_below (bs BK416.out) hb)
        have n1_ := Aside0.mk (blk_below (bs BK417.out) hb)
        have n2_ := Aside0.mk (blk_below (bs BK429.out) hb)
        have n3_ := Aside0.mk (blk_below (bs BK439.out) hb)
        have n4_ := Aside0.mk (below_step (by repeat (first | (with_reducible first | exact bw HB.out | refine bset ?_ (by assumption) | apply below_alloc | apply pw_below_drewN | apply below_drew1) | exact HB.out)) hb)
        clear BK416
        clear BK417
        clear BK429
        clear BK439
        clear HB
        have BK416 := n0_
        have BK417 := n1_
        have BK429 := n2_
        have BK439 := n3_
        have HB := n4_
        clear n0_ n1_ n2_ n3_ n4_
        (try clear hb)
        (try clear hb2)
        (try clear hk)
        (try clear hi)
        refine hK.out _ _ ⟨(blk_cell BK416.out 0).trans rfl, (blk_cell BK416.out 1).trans rfl, (blk_cell BK416.out 2).trans rfl, (blk_cell BK417.out 0).trans rfl, (blk_cell BK417.out 1).trans rfl⟩ (fun hHeld => ?_)
        clear hK K
        refine norm_ (a' := ?_) ?_ ?_
        rotate_left
        ·show Act.put _ (some 33) _ = _
         simp only [aq_]
         rfl
        refine pup_ (i := 5) (N := some 28) (v := ?_) (a' := ?_) HT_ rfl rfl (by kernel_rfl) (fun _ _ _ h => h) (Or.inl ⟨by rfl, ?_⟩) ?_ ?_
        rotate_left
        ·intro w'
         go_simp
         with_reducible rfl
        rotate_left
        ·simp only [aq_]
         rfl
        refine pup_ (i := 6) (N := some 34) (v := ?_) (a' := ?_) HT_ rfl rfl (by kernel_rfl) (fun _ _ _ h => h) (Or.inl ⟨by rfl, ?_⟩) ?_ ?_
        rotate_left
        ·intro w'
         go_simp
         with_reducible rfl
        rotate_left
        ·simp only [aq_]
         rfl
        refine pup_ (i := 7) (N := some 35) (v := ?_) (a' := ?_) HT_ rfl rfl (by kernel_rfl) (fun _ _ _ h => h) (Or.inl ⟨by rfl, ?_⟩) ?_ ?_
        rotate_left
        ·intro w'
         go_simp
         with_reducible rfl
        rotate_left
        ·simp only [aq_]
         rfl
        exact norm_ (by simp only [putAll, Act.put, List.setIfInBounds_toArray, List.set_cons_zero, List.set_cons_succ]) (hCont (gb439) _ ⟨hHeld, (bs BK416.out), (bs BK417.out), (bs BK429.out), (bs BK439.out), GW439.out, GE439.out, NB416_439.out, NB439_416.out, NB417_439.out, NB439_417.out, NB429_439.out, NB439_429.out, (by repeat (first | (with_reducible first | exact bw HB.out | refine bset ?_ (by assumption) | apply below_alloc | apply pw_below_drewN | apply below_drew1) | exact HB.out))⟩)
      ·skip
       refine box_step ?hg (N := 8) ?hd (cs := #[.string (⟨#[]⟩ : ByteArray), .string (⟨#[]⟩ : ByteArray), .int .i64 0]) (t := 34) ?hr ?_; (case hd => rfl); (case hg => rfl); (case hr => first | (go_simp; done) | (go_simp; rfl))
       intro gb439 hg w80 hbox hb
       have n0_ := Aside0.mk (blk_below (bs BK416.out) hb)
       have n1_ := Aside0.mk (blk_below (bs BK417.out) hb)
       have n2_ := Aside0.mk (blk_below (bs BK429.out) hb)
       have n3_ := Aside0.mk (below_step (by repeat (first | (with_reducible first | exact bw HB.out | refine bset ?_ (by assumption) | apply below_alloc | apply pw_below_drewN | apply below_drew1) | exact HB.out)) hb)
       have n4_ := Aside0.mk (hbox)
       have n5_ := Aside0.mk ((by rw [hg]; exact (below_size (by repeat (first | (with_reducible first | exact bw HB.out | refine bset ?_ (by assumption) | apply below_alloc | apply pw_below_drewN | apply below_drew1) | exact HB.out))) : w.heap.size ≤ gb439))
       have n6_ := Aside0.mk ((by rw [hg]; exact (below_size (by repeat (first | (with_reducible first | exact bw HB.out | refine bset ?_ (by assumption) | apply below_alloc | apply pw_below_drewN | apply below_drew1) | exact HB.out))) : w.heap.size ≤ gb439))
       have n7_ := ne_ hg BK416.out
       have n8_ := en_ hg BK416.out
       have n9_ := ne_ hg BK417.out
       have n10_ := en_ hg BK417.out
       have n11_ := ne_ hg BK429.out
       have n12_ := en_ hg BK429.out
       clear BK416
       clear BK417
       clear BK429
       clear HB
       have BK416 := n0_
       have BK417 := n1_
       have BK429 := n2_
       have HB := n3_
       have BK439 := n4_
       have GW439 := n5_
       have GE439 := n6_
       have NB416_439 := n7_
       have NB439_416 := n8_
       have NB417_439 := n9_
       have NB439_417 := n10_
       have NB429_439 := n11_
       have NB439_429 := n12_
       clear n0_ n1_ n2_ n3_ n4_ n5_ n6_ n7_ n8_ n9_ n10_ n11_ n12_
       clear hb hbox hg
       refine hK.out _ _ ⟨(blk_cell BK416.out 0).trans rfl, (blk_cell BK416.out 1).trans rfl, (blk_cell BK416.out 2).trans rfl, (blk_cell BK417.out 0).trans rfl, (blk_cell BK417.out 1).trans rfl⟩ (fun hHeld => ?_)
       clear hK K
       refine norm_ (a' := ?_) ?_ ?_
       rotate_left
       ·show Act.put _ (some 8) _ = _
        simp only [aq_]
        rfl
       refine one_ (i := 1) (N := some 30) q6_7 rfl rfl (one_of HT_.out (by kernel_rfl)) (by decide) (fun K hK => ?_)
       refine goes_ Try.func23 (by kernel_rfl) rfl #[.agg #[.string a0_0, .string a0_1, .int .i64 a0_2]] (by rfl) rfl rfl (by (try simp only [mA_]); first | done | rfl | (simp only [List.length_drop, List.length_take]; rfl)) ?_
       with_reducible refine (laws_toLog.calls a0_0 a0_1 a0_2 t430 t431 t432 _ A22.out).mono ?_
       rintro e w81 ⟨rfl, hb⟩
       refine ⟨_, rfl, ?_⟩
       have n0_ := Aside0.mk (blk_below (bs BK416.out) hb)
       have n1_ := Aside0.mk (blk_below (bs BK417.out) hb)
       have n2_ := Aside0.mk (blk_below (bs BK429.out) hb)
       have n3_ := Aside0.mk (blk_below (bs BK439.out) hb)
       have n4_ := Aside0.mk (below_step (by repeat (first | (with_reducible first | exact bw HB.out | refine bset ?_ (by assumption) | apply below_alloc | apply pw_below_drewN | apply below_drew1) | exact HB.out)) hb)
       clear BK416
       clear BK417
       clear BK429
       clear BK439
       clear HB
       have BK416 := n0_
       have BK417 := n1_
       have BK429 := n2_
       have BK439 := n3_
       have HB := n4_
       clear n0_ n1_ n2_ n3_ n4_
       (try clear hb)
       (try clear hb2)
       (try clear hk)
       (try clear hi)
       refine hK.out _ _ ⟨(blk_cell BK416.out 0).trans rfl, (blk_cell BK416.out 1).trans rfl, (blk_cell BK416.out 2).trans rfl, (blk_cell BK417.out 0).trans rfl, (blk_cell BK417.out 1).trans rfl⟩ (fun hHeld => ?_)
       clear hK K
       refine norm_ (a' := ?_) ?_ ?_
       rotate_left
       ·show Act.put _ (some 30) _ = _
        simp only [aq_]
        rfl
       refine one_ (i := 3) (N := some 32) q6_9 rfl rfl (one_of HT_.out (by kernel_rfl)) (by decide) (fun K hK => ?_)
       refine goes_ Try.func30 (by kernel_rfl) rfl #[.agg #[.string a1_0, .string a1_1]] (by rfl) rfl rfl (by (try simp only [mA_]); first | done | rfl | (simp only [List.length_drop, List.length_take]; rfl)) ?_
       with_reducible refine (laws_toLogRecord.calls a1_0 a1_1 t433 t434 _ A23.out).mono ?_
       rintro e w82 ⟨rfl, hb⟩
       refine ⟨_, rfl, ?_⟩
       have n0_ := Aside0.mk (blk_below (bs BK416.out) hb)
       have n1_ := Aside0.mk (blk_below (bs BK417.out) hb)
       have n2_ := Aside0.mk (blk_below (bs BK429.out) hb)
       have n3_ := Aside0.mk (blk_below (bs BK439.out) hb)
       have n4_ := Aside0.mk (below_step (by repeat (first | (with_reducible first | exact bw HB.out | refine bset ?_ (by assumption) | apply below_alloc | apply pw_below_drewN | apply below_drew1) | exact HB.out)) hb)
       clear BK416
       clear BK417
       clear BK429
       clear BK439
       clear HB
       have BK416 := n0_
       have BK417 := n1_
       have BK429 := n2_
       have BK439 := n3_
       have HB := n4_
       clear n0_ n1_ n2_ n3_ n4_
       (try clear hb)
       (try clear hb2)
       (try clear hk)
       (try clear hi)
       refine hK.out _ _ ⟨(blk_cell BK416.out 0).trans rfl, (blk_cell BK416.out 1).trans rfl, (blk_cell BK416.out 2).trans rfl, (blk_cell BK417.out 0).trans rfl, (blk_cell BK417.out 1).trans rfl⟩ (fun hHeld => ?_)
       clear hK K
       refine norm_ (a' := ?_) ?_ ?_
       rotate_left
       ·show Act.put _ (some 32) _ = _
        simp only [aq_]
        rfl
       refine one_ (i := 4) (N := some 33) q6_13 rfl rfl (one_of HT_.out (by kernel_rfl)) (by decide) (fun K hK => ?_)
       refine goes_ Try.func31 (by kernel_rfl) rfl #[.agg #[.string t430, .string t431, .int .i64 t432], .agg #[.string t433, .string t434]] (by rfl) rfl rfl (by (try simp only [mA_]); first | done | rfl | (simp only [List.length_drop, List.length_take]; rfl)) ?_
       with_reducible refine (impl_AppendRecord.calls k t430 t431 t432 t433 t434 t435 t436 t437 t438 _ A24.out).mono ?_
       rintro e w83 ⟨rfl, hb⟩
       refine ⟨_, rfl, ?_⟩
       have n0_ := Aside0.mk (blk_below (bs BK416.out) hb)
       have n1_ := Aside0.mk (blk_below (bs BK417.out) hb)
       have n2_ := Aside0.mk (blk_below (bs BK429.out) hb)
       have n3_ := Aside0.mk (blk_below (bs BK439.out) hb)
       have n4_ := Aside0.mk (below_step (by repeat (first | (with_reducible first | exact bw HB.out | refine bset ?_ (by assumption) | apply below_alloc | apply pw_below_drewN | apply below_drew1) | exact HB.out)) hb)
       clear BK416
       clear BK417
       clear BK429
       clear BK439
       clear HB
       have BK416 := n0_
       have BK417 := n1_
       have BK429 := n2_
       have BK439 := n3_
       have HB := n4_
       clear n0_ n1_ n2_ n3_ n4_
       (try clear hb)
       (try clear hb2)
       (try clear hk)
       (try clear hi)
       refine hK.out _ _ ⟨(blk_cell BK416.out 0).trans rfl, (blk_cell BK416.out 1).trans rfl, (blk_cell BK416.out 2).trans rfl, (blk_cell BK417.out 0).trans rfl, (blk_cell BK417.out 1).trans rfl⟩ (fun hHeld => ?_)
       clear hK K
       refine norm_ (a' := ?_) ?_ ?_
       rotate_left
       ·show Act.put _ (some 33) _ = _
        simp only [aq_]
        rfl
       refine pup_ (i := 5) (N := some 28) (v := ?_) (a' := ?_) HT_ rfl rfl (by kernel_rfl) (fun _ _ _ h => h) (Or.inl ⟨by rfl, ?_⟩) ?_ ?_
       rotate_left
       ·intro w'
        go_simp
        with_reducible rfl
       rotate_left
       ·simp only [aq_]
        rfl
       refine pup_ (i := 6) (N := some 34) (v := ?_) (a' := ?_) HT_ rfl rfl (by kernel_rfl) (fun _ _ _ h => h) (Or.inl ⟨by rfl, ?_⟩) ?_ ?_
       rotate_left
       ·intro w'
        go_simp
        with_reducible rfl
       rotate_left
       ·simp only [aq_]
        rfl
       refine pup_ (i := 7) (N := some 35) (v := ?_) (a' := ?_) HT_ rfl rfl (by kernel_rfl) (fun _ _ _ h => h) (Or.inl ⟨by rfl, ?_⟩) ?_ ?_
       rotate_left
       ·intro w'
        go_simp
        with_reducible rfl
       rotate_left
       ·simp only [aq_]
        rfl
       exact norm_ (by simp only [putAll, Act.put, List.setIfInBounds_toArray, List.set_cons_zero, List.set_cons_succ]) (hCont (gb439) _ ⟨hHeld, (bs BK416.out), (bs BK417.out), (bs BK429.out), (bs BK439.out), GW439.out, GE439.out, NB416_439.out, NB439_416.out, NB417_439.out, NB439_417.out, NB429_439.out, NB439_429.out, (by repeat (first | (with_reducible first | exact bw HB.out | refine bset ?_ (by assumption) | apply below_alloc | apply pw_below_drewN | apply below_drew1) | exact HB.out))⟩)
     rintro gb439 w84 ⟨hS_, h0_, h1_, h2_, h3_, h4_, h5_, h6_, h7_, h8_, h9_, h10_, h11_, h12_⟩
     have n0_ : Aside0 (w84.heap[gb416]? = some (.cells #[.string a0_0, .string a0_1, .int .i64 a0_2] 32 (0, 0))) := ⟨h0_⟩
     have n1_ : Aside0 (w84.heap[gb417]? = some (.cells #[.string a1_0, .string a1_1] 44 (0, 0))) := ⟨h1_⟩
     have n2_ : Aside0 (w84.heap[gb429]? = some (.cells #[.string t425, .string t426, .int .i64 t427] 34 (0, 0))) := ⟨h2_⟩
     have n3_ : Aside0 (w84.heap[gb439]? = some (.cells #[.string (⟨#[]⟩ : ByteArray), .string (⟨#[]⟩ : ByteArray), .int .i64 0] 34 (0, 0))) := ⟨h3_⟩
     have n4_ : Aside0 (w.heap.size ≤ gb439) := ⟨h4_⟩
     have n5_ : Aside0 (w.heap.size ≤ gb439) := ⟨h5_⟩
     have n6_ : Aside0 (gb416 ≠ gb439) := ⟨h6_⟩
     have n7_ : Aside0 (gb439 ≠ gb416) := ⟨h7_⟩
     have n8_ : Aside0 (gb417 ≠ gb439) := ⟨h8_⟩
     have n9_ : Aside0 (gb439 ≠ gb417) := ⟨h9_⟩
     have n10_ : Aside0 (gb429 ≠ gb439) := ⟨h10_⟩
     have n11_ : Aside0 (gb439 ≠ gb429) := ⟨h11_⟩
     have n12_ : Aside0 (Below w.heap.size w w84) := ⟨h12_⟩
     clear BK416
     clear BK417
     clear BK429
     clear HB
     clear h0_ h1_ h2_ h3_ h4_ h5_ h6_ h7_ h8_ h9_ h10_ h11_ h12_
     have BK416 := n0_
     have BK417 := n1_
     have BK429 := n2_
     have BK439 := n3_
     have GW439 := n4_
     have GE439 := n5_
     have NB416_439 := n6_
     have NB439_416 := n7_
     have NB417_439 := n8_
     have NB439_417 := n9_
     have NB429_439 := n10_
     have NB439_429 := n11_
     have HB := n12_
     clear n0_ n1_ n2_ n3_ n4_ n5_ n6_ n7_ n8_ n9_ n10_ n11_ n12_
     have hHeld : w84.cell? ⟨gb416, 0, none⟩ = some (.string a0_0) ∧ w84.cell? ⟨gb416, 1, none⟩ = some (.string a0_1) ∧ w84.cell? ⟨gb416, 2, none⟩ = some (.int .i64 a0_2) ∧ w84.cell? ⟨gb417, 0, none⟩ = some (.string a1_0) ∧ w84.cell? ⟨gb417, 1, none⟩ = some (.string a1_1) := hS_
     refine norm_ (a' := ?_) ?_ ?_
     rotate_left
     ·simp only [putAll, Act.put, List.setIfInBounds_toArray, List.set_cons_zero, List.set_cons_succ]
      rfl
     refine one_ (i := 9) (N := none) q6_16 rfl rfl (one_of HT_.out (by kernel_rfl)) (by decide) (fun K hK => ?_)
     have hs85 : w84.cell? ⟨gb439, 0, none⟩ = some (.string (⟨#[]⟩ : ByteArray)) := (blk_cell BK439.out 0).trans rfl
     have hfs85 := blk_frozen BK439.out 0
     have hns85_0 := NB416_439.out
     have hns85_1 := NB417_439.out
     have hns85_2 := NB429_439.out
     have hms85_0 := NB439_416.out
     have hms85_1 := NB439_417.out
     have hms85_2 := NB439_429.out
     have hs86 : w84.cell? ⟨gb439, 1, none⟩ = some (.string (⟨#[]⟩ : ByteArray)) := (blk_cell BK439.out 1).trans rfl
     have hfs86 := blk_frozen BK439.out 1
     have hns86_0 := NB416_439.out
     have hns86_1 := NB417_439.out
     have hns86_2 := NB429_439.out
     have hms86_0 := NB439_416.out
     have hms86_1 := NB439_417.out
     have hms86_2 := NB439_429.out
     have hs87 : w84.cell? ⟨gb439, 2, none⟩ = some (.int .i64 0) := (blk_cell BK439.out 2).trans rfl
     have hfs87 := blk_frozen BK439.out 2
     have hns87_0 := NB416_439.out
     have hns87_1 := NB417_439.out
     have hns87_2 := NB429_439.out
     have hms87_0 := NB439_416.out
     have hms87_1 := NB439_417.out
     have hms87_2 := NB439_429.out
     refine skip_ (w1 := ?_) (by rfl) rfl ?_ ?_
     rotate_left
     ·go_simp
      rfl
     refine hK.out _ _ ⟨((cell_far (p := ⟨gb439, _, none⟩) NB416_439.out _).trans (((cell_far (p := ⟨gb439, _, none⟩) NB416_439.out _).trans (((cell_far (p := ⟨gb439, _, none⟩) NB416_439.out _).trans (hHeld.1)))))), ((cell_far (p := ⟨gb439, _, none⟩) NB416_439.out _).trans (((cell_far (p := ⟨gb439, _, none⟩) NB416_439.out _).trans (((cell_far (p := ⟨gb439, _, none⟩) NB416_439.out _).trans (hHeld.2.1)))))), ((cell_far (p := ⟨gb439, _, none⟩) NB416_439.out _).trans (((cell_far (p := ⟨gb439, _, none⟩) NB416_439.out _).trans (((cell_far (p := ⟨gb439, _, none⟩) NB416_439.out _).trans (hHeld.2.2.1)))))), ((cell_far (p := ⟨gb439, _, none⟩) NB417_439.out _).trans (((cell_far (p := ⟨gb439, _, none⟩) NB417_439.out _).trans (((cell_far (p := ⟨gb439, _, none⟩) NB417_439.out _).trans (hHeld.2.2.2.1)))))), ((cell_far (p := ⟨gb439, _, none⟩) NB417_439.out _).trans (((cell_far (p := ⟨gb439, _, none⟩) NB417_439.out _).trans (((cell_far (p := ⟨gb439, _, none⟩) NB417_439.out _).trans (hHeld.2.2.2.2))))))⟩ (fun hHeld => ?_)
     clear hK K
     refine pup_ (i := 10) (N := some 9) (v := ?_) (a' := ?_) HT_ rfl rfl (by kernel_rfl) (fun _ _ _ h => h) (Or.inl ⟨by rfl, ?_⟩) ?_ ?_
     rotate_left
     ·intro w'
      go_simp
      with_reducible rfl
     rotate_left
     ·simp only [aq_]
      rfl
     refine done_ (done_of HT_.out (by kernel_rfl)) ?_
     have hnb88 := NB439_416.out
     have hnc88 := NB416_439.out
     have hnb89 := NB439_417.out
     have hnc89 := NB417_439.out
     have hnb90 := NB439_429.out
     have hnc90 := NB429_439.out
     have hcz91_0 := b3_0 BK439.out
     have hcz91_1 := b3_1 BK439.out
     have hcz91_2 := b3_2 BK439.out
     have hfz91_0 := blk_frozen BK439.out 0
     have hfz91_1 := blk_frozen BK439.out 1
     have hfz91_2 := blk_frozen BK439.out 2
     have hnb92 := NB429_416.out
     have hnc92 := NB416_429.out
     have hnb93 := NB429_417.out
     have hnc93 := NB417_429.out
     have hcz94_0 := b3_0 BK429.out
     have hcz94_1 := b3_1 BK429.out
     have hcz94_2 := b3_2 BK429.out
     have hfz94_0 := blk_frozen BK429.out 0
     have hfz94_1 := blk_frozen BK429.out 1
     have hfz94_2 := blk_frozen BK429.out 2
     try go_wp2_with (first | ((with_reducible refine gate_callee (f := 25) rfl ?_); refine goesL_ (some 38) rfl rfl Try.func25 (by kernel_rfl) rfl #[.agg #[.string t435, .string t436, .int .i64 t437], .agg #[.string t425, .string t426, .int .i64 t427]] rfl (by (try simp only [mA_]); first | done | rfl | (simp only [List.length_drop, List.length_take]; rfl)) ?_; (with_reducible refine (laws_eqLog.calls t435 t436 t437 t425 t426 t427 true _ A25.out).mono ?_); rintro e w95 ⟨rfl, hb⟩; refine ⟨_, rfl, ?_⟩; have n0_ := Aside0.mk (blk_below (g := gb416) (o := .cells #[.string a0_0, .string a0_1, .int .i64 a0_2] 32 (0, 0)) (by (with_reducible repeat (first | refine blk_drewN ?_ _ | refine blk_drew ?_ | refine blk_alloc ?_ _)); refine blk_far ?_ NB416_439.out _; (with_reducible repeat (first | refine blk_drewN ?_ _ | refine blk_drew ?_ | refine blk_alloc ?_ _)); refine blk_far ?_ NB416_439.out _; (with_reducible repeat (first | refine blk_drewN ?_ _ | refine blk_drew ?_ | refine blk_alloc ?_ _)); refine blk_far ?_ NB416_439.out _; exact bs BK416.out) hb); have n1_ := Aside0.mk (blk_below (g := gb417) (o := .cells #[.string a1_0, .string a1_1] 44 (0, 0)) (by (with_reducible repeat (first | refine blk_drewN ?_ _ | refine blk_drew ?_ | refine blk_alloc ?_ _)); refine blk_far ?_ NB417_439.out _; (with_reducible repeat (first | refine blk_drewN ?_ _ | refine blk_drew ?_ | refine blk_alloc ?_ _)); refine blk_far ?_ NB417_439.out _; (with_reducible repeat (first | refine blk_drewN ?_ _ | refine blk_drew ?_ | refine blk_alloc ?_ _)); refine blk_far ?_ NB417_439.out _; exact bs BK417.out) hb); have n2_ := Aside0.mk (blk_below (g := gb429) (o := .cells #[.string t425, .string t426, .int .i64 t427] 34 (0, 0)) (by (with_reducible repeat (first | refine blk_drewN ?_ _ | refine blk_drew ?_ | refine blk_alloc ?_ _)); refine blk_far ?_ NB429_439.out _; (with_reducible repeat (first | refine blk_drewN ?_ _ | refine blk_drew ?_ | refine blk_alloc ?_ _)); refine blk_far ?_ NB429_439.out _; (with_reducible repeat (first | refine blk_drewN ?_ _ | refine blk_drew ?_ | refine blk_alloc ?_ _)); refine blk_far ?_ NB429_439.out _; exact bs BK429.out) hb); have n3_ := Aside0.mk (blk_below (g := gb439) (o := .cells #[.string t435, .string t436, .int .i64 t437] 34 (0, 0)) (by (with_reducible repeat (first | refine blk_drewN ?_ _ | refine blk_drew ?_ | refine blk_alloc ?_ _)); refine blk_put (cs := #[.string t435, .string t436, .int .i64 0]) ?_ 2 _ rfl; (with_reducible repeat (first | refine blk_drewN ?_ _ | refine blk_drew ?_ | refine blk_alloc ?_ _)); refine blk_put (cs := #[.string t435, .string (⟨#[]⟩ : ByteArray), .int .i64 0]) ?_ 1 _ rfl; (with_reducible repeat (first | refine blk_drewN ?_ _ | refine blk_drew ?_ | refine blk_alloc ?_ _)); refine blk_put (cs := #[.string (⟨#[]⟩ : ByteArray), .string (⟨#[]⟩ : ByteArray), .int .i64 0]) ?_ 0 _ rfl; exact bs BK439.out) hb); have n4_ := Aside0.mk (below_step (by repeat (first | (with_reducible first | exact bw HB.out | refine bset ?_ (by assumption) | apply below_alloc | apply pw_below_drewN | apply below_drew1) | exact HB.out)) hb); clear BK416; clear BK417; clear BK429; clear BK439; clear HB; have BK416 := n0_; have BK417 := n1_; have BK429 := n2_; have BK439 := n3_; have HB := n4_; clear n0_ n1_ n2_ n3_ n4_; (try clear hb); (try clear hb2); (try clear hk); (try clear hi)))
     go_ret
     exact ⟨by first | rfl | (simp [errW_none, errW_some] <;> rfl) | (simp [*, errW_none, errW_some] <;> rfl), by repeat (first | (with_reducible first | exact bw HB.out | refine bset ?_ (by assumption) | apply below_alloc | apply pw_below_drewN | apply below_drew1) | exact HB.out)⟩
   ·replace c26 := Bool.eq_false_iff.mpr c26
    subst c26
    have H1 : (some false) = some r := by rw [if_neg (show ¬ (false = true) by decide)] at H; exact H
    clear H
    have H := H1
    clear H1
    obtain rfl := Option.some.inj H
    go_enter Try.func6, Try.ntmps6
    try go_wp2_with (first | ((with_reducible refine gate_dst (N := 2) rfl ?_); refine box_event ?hg (N := 2) ?hd (cs := #[.string a0_0, .string a0_1, .int .i64 a0_2]) (t := 32) ?hr ?_; (case hd => rfl); (case hg => rfl); (case hr => first | (go_simp; done) | (go_simp; rfl)); intro gb416 hg w96 hbox hb; have n0_ := Aside0.mk (below_step (bw HB.out) hb); have n1_ := Aside0.mk (hbox); have n2_ := ge_ hg HB.out; have n3_ := ge_ hg HB.out; clear HB; have HB := n0_; have BK416 := n1_; have GW416 := n2_; have GE416 := n3_; clear n0_ n1_ n2_ n3_; clear hb hbox hg) | ((with_reducible refine gate_dst (N := 3) rfl ?_); refine box_event ?hg (N := 3) ?hd (cs := #[.string a1_0, .string a1_1]) (t := 44) ?hr ?_; (case hd => rfl); (case hg => rfl); (case hr => first | (go_simp; done) | (go_simp; rfl)); intro gb417 hg w97 hbox hb; have n0_ := Aside0.mk (blk_below (bs BK416.out) hb); have n1_ := Aside0.mk (below_step (by repeat (first | (with_reducible first | exact bw HB.out | refine bset ?_ (by assumption) | apply below_alloc | apply pw_below_drewN | apply below_drew1) | exact HB.out)) hb); have n2_ := Aside0.mk (hbox); have n3_ := Aside0.mk ((by rw [hg]; exact (below_size (by repeat (first | (with_reducible first | exact bw HB.out | refine bset ?_ (by assumption) | apply below_alloc | apply pw_below_drewN | apply below_drew1) | exact HB.out))) : w.heap.size ≤ gb417)); have n4_ := Aside0.mk ((by rw [hg]; exact (below_size (by repeat (first | (with_reducible first | exact bw HB.out | refine bset ?_ (by assumption) | apply below_alloc | apply pw_below_drewN | apply below_drew1) | exact HB.out))) : w.heap.size ≤ gb417)); have n5_ := ne_ hg BK416.out; have n6_ := en_ hg BK416.out; clear BK416; clear HB; have BK416 := n0_; have HB := n1_; have BK417 := n2_; have GW417 := n3_; have GE417 := n4_; have NB416_417 := n5_; have NB417_416 := n6_; clear n0_ n1_ n2_ n3_ n4_ n5_ n6_; clear hb hbox hg; have hnb98 := NB416_417.out; have hnc98 := NB417_416.out; have hcz99_0 := b3_0 BK416.out; have hcz99_1 := b3_1 BK416.out; have hcz99_2 := b3_2 BK416.out; have hfz99_0 := blk_frozen BK416.out 0; have hfz99_1 := blk_frozen BK416.out 1; have hfz99_2 := blk_frozen BK416.out 2) | ((with_reducible refine gate_callee (f := 21) rfl ?_); refine goesL_ (some 12) rfl rfl Try.func21 (by kernel_rfl) rfl #[.agg #[.string a0_0, .string a0_1, .int .i64 a0_2], .int .i64 1048576] rfl (by (try simp only [mA_]); first | done | rfl | (simp only [List.length_drop, List.length_take]; rfl)) ?_; (with_reducible refine (laws_szLog.calls a0_0 a0_1 a0_2 1048576 t418 _ A3.out).mono ?_); rintro e w100 ⟨rfl, hb⟩; refine ⟨_, rfl, ?_⟩; have n0_ := Aside0.mk (blk_below (bs BK416.out) hb); have n1_ := Aside0.mk (blk_below (bs BK417.out) hb); have n2_ := Aside0.mk (below_step (by repeat (first | (with_reducible first | exact bw HB.out | refine bset ?_ (by assumption) | apply below_alloc | apply pw_below_drewN | apply below_drew1) | exact HB.out)) hb); clear BK416; clear BK417; clear HB; have BK416 := n0_; have BK417 := n1_; have HB := n2_; clear n0_ n1_ n2_; (try clear hb); (try clear hb2); (try clear hk); (try clear hi); have hcz101_0 := b2_0 BK417.out; have hcz101_1 := b2_1 BK417.out; have hfz101_0 := blk_frozen BK417.out 0; have hfz101_1 := blk_frozen BK417.out 1) | ((with_reducible refine gate_callee (f := 28) rfl ?_); refine goesL_ (some 17) rfl rfl Try.func28 (by kernel_rfl) rfl #[.agg #[.string a1_0, .string a1_1], .int .i64 t418] rfl (by (try simp only [mA_]); first | done | rfl | (simp only [List.length_drop, List.length_take]; rfl)) ?_; (with_reducible refine (laws_szLogRecord.calls a1_0 a1_1 t418 t419 _ A10.out).mono ?_); rintro e w102 ⟨rfl, hb⟩; refine ⟨_, rfl, ?_⟩; have n0_ := Aside0.mk (blk_below (bs BK416.out) hb); have n1_ := Aside0.mk (blk_below (bs BK417.out) hb); have n2_ := Aside0.mk (below_step (by repeat (first | (with_reducible first | exact bw HB.out | refine bset ?_ (by assumption) | apply below_alloc | apply pw_below_drewN | apply below_drew1) | exact HB.out)) hb); clear BK416; clear BK417; clear HB; have BK416 := n0_; have BK417 := n1_; have HB := n2_; clear n0_ n1_ n2_; (try clear hb); (try clear hb2); (try clear hk); (try clear hi)))
    have n0_ := Aside0.mk (blk_drew BK416.out)
    have n1_ := Aside0.mk (blk_drew BK417.out)
    have n2_ := Aside0.mk (below_drew1 HB.out)
    clear BK416
    clear BK417
    clear HB
    have BK416 := n0_
    have BK417 := n1_
    have HB := n2_
    clear n0_ n1_ n2_
    refine start_ (n := 11) (S := fun w' => w'.cell? ⟨gb416, 0, none⟩ = some (.string a0_0) ∧ w'.cell? ⟨gb416, 1, none⟩ = some (.string a0_1) ∧ w'.cell? ⟨gb416, 2, none⟩ = some (.int .i64 a0_2) ∧ w'.cell? ⟨gb417, 0, none⟩ = some (.string a1_0) ∧ w'.cell? ⟨gb417, 1, none⟩ = some (.string a1_1)) (ds := []) q6_0 (by kernel_rfl) rfl rfl ⟨(blk_cell BK416.out 0).trans rfl, (blk_cell BK416.out 1).trans rfl, (blk_cell BK416.out 2).trans rfl, (blk_cell BK417.out 0).trans rfl, (blk_cell BK417.out 1).trans rfl⟩ (fun hHeld => ?_); refine with_tabW laws_FnExactAppendRecord.tab8 laws_FnExactAppendRecord.bits8 (fun HT_ HW_ => ?_)
    generalize w102.drew = w103 at BK416 BK417 HB hHeld ⊢
    refine take_ (i := 0) (N := some 21) (v := ?_) (a' := ?_) q6_1 rfl rfl (take_ofW HT_.out HW_.out (by kernel_rfl)) (fun _ _ _ h => h) (Or.inl ⟨by rfl, ?_⟩) hHeld ?_ ?_
    rotate_left
    ·rintro w' ⟨s0, s1, s2, s3, s4⟩
     go_simp
     with_reducible rfl
    rotate_left
    ·simp only [aq_]
     rfl
    refine take_ (i := 2) (N := some 23) (v := ?_) (a' := ?_) q6_2 rfl rfl (take_ofW HT_.out HW_.out (by kernel_rfl)) (fun _ _ _ h => h) (Or.inl ⟨by rfl, ?_⟩) hHeld ?_ ?_
    rotate_left
    ·rintro w' ⟨s0, s1, s2, s3, s4⟩
     go_simp
     with_reducible rfl
    rotate_left
    ·simp only [aq_]
     rfl
    refine join_ (σ := Nat) 2 q6_3 (fun s_ => [(22, .agg #[.string t420, .string t421, .int .i64 t422]), (24, .agg #[.string t423, .string t424]), (25, .tuple #[.agg #[.string t425, .string t426, .int .i64 t427], .int .i64 t428]), (6, .pointer (some ⟨s_, 0, none⟩)), (20, .tuple #[.agg #[.string t425, .string t426, .int .i64 t427], .int .i64 t428]), (26, .agg #[.string t425, .string t426, .int .i64 t427]), (27, .int .i64 t428)]) (fun s_ w' => (w'.cell? ⟨gb416, 0, none⟩ = some (.string a0_0) ∧ w'.cell? ⟨gb416, 1, none⟩ = some (.string a0_1) ∧ w'.cell? ⟨gb416, 2, none⟩ = some (.int .i64 a0_2) ∧ w'.cell? ⟨gb417, 0, none⟩ = some (.string a1_0) ∧ w'.cell? ⟨gb417, 1, none⟩ = some (.string a1_1)) ∧ (w'.heap[gb416]? = some (.cells #[.string a0_0, .string a0_1, .int .i64 a0_2] 32 (0, 0))) ∧ (w'.heap[gb417]? = some (.cells #[.string a1_0, .string a1_1] 44 (0, 0))) ∧ (w'.heap[s_]? = some (.cells #[.string (⟨#[]⟩ : ByteArray), .string (⟨#[]⟩ : ByteArray), .int .i64 0] 34 (0, 0))) ∧ (w.heap.size ≤ s_) ∧ (w.heap.size ≤ s_) ∧ (gb416 ≠ s_) ∧ (s_ ≠ gb416) ∧ (gb417 ≠ s_) ∧ (s_ ≠ gb417) ∧ (Below w.heap.size w w')) ?_ ?_
    rotate_left
    ·intro hCont
     refine two_ (i := 1) (j := 8) (Ni := some 22) (Nj := some 6) q6_4 q6_5 rfl rfl rfl rfl (two_of HT_.out (by kernel_rfl)) (by decide) (by decide) (fun K hK => ?_) (fun K hK => ?_)
     ·skip
      refine goes_ Try.func23 (by kernel_rfl) rfl #[.agg #[.string a0_0, .string a0_1, .int .i64 a0_2]] (by rfl) rfl rfl (by (try simp only [mA_]); first | done | rfl | (simp only [List.length_drop, List.length_take]; rfl)) ?_
      with_reducible refine (laws_toLog.calls a0_0 a0_1 a0_2 t420 t421 t422 _ A19.out).mono ?_
      rintro e w104 ⟨rfl, hb⟩
      refine ⟨_, rfl, ?_⟩
      have n0_ := Aside0.mk (blk_below (bs BK416.out) hb)
      have n1_ := Aside0.mk (blk_below (bs BK417.out) hb)
      have n2_ := Aside0.mk (below_step (by repeat (first | (with_reducible first | exact bw HB.out | refine bset ?_ (by assumption) | apply below_alloc | apply pw_below_drewN | apply below_drew1) | exact HB.out)) hb)
      clear BK416
      clear BK417
      clear HB
      have BK416 := n0_
      have BK417 := n1_
      have HB := n2_
      clear n0_ n1_ n2_
      (try clear hb)
      (try clear hb2)
      (try clear hk)
      (try clear hi)
      refine hK.out _ _ ⟨(blk_cell BK416.out 0).trans rfl, (blk_cell BK416.out 1).trans rfl, (blk_cell BK416.out 2).trans rfl, (blk_cell BK417.out 0).trans rfl, (blk_cell BK417.out 1).trans rfl⟩ (fun hHeld => ?_)
      clear hK K
      refine norm_ (a' := ?_) ?_ ?_
      rotate_left
      ·show Act.put _ (some 22) _ = _
       simp only [aq_]
       rfl
      refine two_ (i := 3) (j := 8) (Ni := some 24) (Nj := some 6) q6_6 q6_7 rfl rfl rfl rfl (two_of HT_.out (by kernel_rfl)) (by decide) (by decide) (fun K hK => ?_) (fun K hK => ?_)
      ·skip
       refine goes_ Try.func30 (by kernel_rfl) rfl #[.agg #[.string a1_0, .string a1_1]] (by rfl) rfl rfl (by (try simp only [mA_]); first | done | rfl | (simp only [List.length_drop, List.length_take]; rfl)) ?_
       with_reducible refine (laws_toLogRecord.calls a1_0 a1_1 t423 t424 _ A20.out).mono ?_
       rintro e w105 ⟨rfl, hb⟩
       refine ⟨_, rfl, ?_⟩
       have n0_ := Aside0.mk (blk_below (bs BK416.out) hb)
       have n1_ := Aside0.mk (blk_below (bs BK417.out) hb)
       have n2_ := Aside0.mk (below_step (by repeat (first | (with_reducible first | exact bw HB.out | refine bset ?_ (by assumption) | apply below_alloc | apply pw_below_drewN | apply below_drew1) | exact HB.out)) hb)
       clear BK416
       clear BK417
       clear HB
       have BK416 := n0_
       have BK417 := n1_
       have HB := n2_
       clear n0_ n1_ n2_
       (try clear hb)
       (try clear hb2)
       (try clear hk)
       (try clear hi)
       refine hK.out _ _ ⟨(blk_cell BK416.out 0).trans rfl, (blk_cell BK416.out 1).trans rfl, (blk_cell BK416.out 2).trans rfl, (blk_cell BK417.out 0).trans rfl, (blk_cell BK417.out 1).trans rfl⟩ (fun hHeld => ?_)
       clear hK K
       refine norm_ (a' := ?_) ?_ ?_
       rotate_left
       ·show Act.put _ (some 24) _ = _
        simp only [aq_]
        rfl
       refine two_ (i := 4) (j := 8) (Ni := some 25) (Nj := some 6) q6_8 q6_9 rfl rfl rfl rfl (two_of HT_.out (by kernel_rfl)) (by decide) (by decide) (fun K hK => ?_) (fun K hK => ?_)
       ·skip
        refine goes_ Try.func29 (by kernel_rfl) rfl #[.agg #[.string t420, .string t421, .int .i64 t422], .agg #[.string t423, .string t424]] (by rfl) rfl rfl (by (try simp only [mA_]); first | done | rfl | (simp only [List.length_drop, List.length_take]; rfl)) ?_
        with_reducible refine (spec_AppendRecord.calls k t420 t421 t422 t423 t424 t425 t426 t427 t428 _ A21.out).mono ?_
        rintro e w106 ⟨rfl, hb⟩
        refine ⟨_, rfl, ?_⟩
        have n0_ := Aside0.mk (blk_below (bs BK416.out) hb)
        have n1_ := Aside0.mk (blk_below (bs BK417.out) hb)
        have n2_ := Aside0.mk (below_step (by repeat (first | (with_reducible first | exact bw HB.out | refine bset ?_ (by assumption) | apply below_alloc | apply pw_below_drewN | apply below_drew1) | exact HB.out)) hb)
        clear BK416
        clear BK417
        clear HB
        have BK416 := n0_
        have BK417 := n1_
        have HB := n2_
        clear n0_ n1_ n2_
        (try clear hb)
        (try clear hb2)
        (try clear hk)
        (try clear hi)
        refine hK.out _ _ ⟨(blk_cell BK416.out 0).trans rfl, (blk_cell BK416.out 1).trans rfl, (blk_cell BK416.out 2).trans rfl, (blk_cell BK417.out 0).trans rfl, (blk_cell BK417.out 1).trans rfl⟩ (fun hHeld => ?_)
        clear hK K
        refine norm_ (a' := ?_) ?_ ?_
        rotate_left
        ·show Act.put _ (some 25) _ = _
         simp only [aq_]
         rfl
        refine pup_ (i := 5) (N := some 20) (v := ?_) (a' := ?_) HT_ rfl rfl (by kernel_rfl) (fun _ _ _ h => h) (Or.inl ⟨by rfl, ?_⟩) ?_ ?_
        rotate_left
        ·intro w'
         go_simp
         with_reducible rfl
        rotate_left
        ·simp only [aq_]
         rfl
        refine pup_ (i := 6) (N := some 26) (v := ?_) (a' := ?_) HT_ rfl rfl (by kernel_rfl) (fun _ _ _ h => h) (Or.inl ⟨by rfl, ?_⟩) ?_ ?_
        rotate_left
        ·intro w'
         go_simp
         with_reducible rfl
        rotate_left
        ·simp only [aq_]
         rfl
        refine pup_ (i := 7) (N := some 27) (v := ?_) (a' := ?_) HT_ rfl rfl (by kernel_rfl) (fun _ _ _ h => h) (Or.inl ⟨by rfl, ?_⟩) ?_ ?_
        rotate_left
        ·intro w'
         go_simp
         with_reducible rfl
        rotate_left
        ·simp only [aq_]
         rfl
        refine one_ (i := 8) (N := some 6) q6_3 rfl rfl (one_of HT_.out (by kernel_rfl)) (by decide) (fun K hK => ?_)
        refine box_step ?hg (N := 6) ?hd (cs := #[.string (⟨#[]⟩ : ByteArray), .string (⟨#[]⟩ : ByteArray), .int .i64 0]) (t := 34) ?hr ?_; (case hd => rfl); (case hg => rfl); (case hr => first | (go_simp; done) | (go_simp; rfl))
        intro gb429 hg w107 hbox hb
        have n0_ := Aside0.mk (blk_below (bs BK416.out) hb)
        have n1_ := Aside0.mk (blk_below (bs BK417.out) hb)
        have n2_ := Aside0.mk (below_step (by repeat (first | (with_reducible first | exact bw HB.out | refine bset ?_ (by assumption) | apply below_alloc | apply pw_below_drewN | apply below_drew1) | exact HB.out)) hb)
        have n3_ := Aside0.mk (hbox)
        have n4_ := Aside0.mk ((by rw [hg]; exact (below_size (by repeat (first | (with_reducible first | exact bw HB.out | refine bset ?_ (by assumption) | apply below_alloc | apply pw_below_drewN | apply below_drew1) | exact HB.out))) : w.heap.size ≤ gb429))
        have n5_ := Aside0.mk ((by rw [hg]; exact (below_size (by repeat (first | (with_reducible first | exact bw HB.out | refine bset ?_ (by assumption) | apply below_alloc | apply pw_below_drewN | apply below_drew1) | exact HB.out))) : w.heap.size ≤ gb429))
        have n6_ := ne_ hg BK416.out
        have n7_ := en_ hg BK416.out
        have n8_ := ne_ hg BK417.out
        have n9_ := en_ hg BK417.out
        clear BK416
        clear BK417
        clear HB
        have BK416 := n0_
        have BK417 := n1_
        have HB := n2_
        have BK429 := n3_
        have GW429 := n4_
        have GE429 := n5_
        have NB416_429 := n6_
        have NB429_416 := n7_
        have NB417_429 := n8_
        have NB429_417 := n9_
        clear n0_ n1_ n2_ n3_ n4_ n5_ n6_ n7_ n8_ n9_
        clear hb hbox hg
        refine hK.out _ _ ⟨(blk_cell BK416.out 0).trans rfl, (blk_cell BK416.out 1).trans rfl, (blk_cell BK416.out 2).trans rfl, (blk_cell BK417.out 0).trans rfl, (blk_cell BK417.out 1).trans rfl⟩ (fun hHeld => ?_)
        clear hK K
        refine norm_ (a' := ?_) ?_ ?_
        rotate_left
        ·show Act.put _ (some 6) _ = _
         simp only [aq_]
         rfl
        exact norm_ (by simp only [putAll, Act.put, List.setIfInBounds_toArray, List.set_cons_zero, List.set_cons_succ]) (hCont (gb429) _ ⟨hHeld, (bs BK416.out), (bs BK417.out), (bs BK429.out), GW429.out, GE429.out, NB416_429.out, NB429_416.out, NB417_429.out, NB429_417.out, (by repeat (first | (with_reducible first | exact bw HB.out | refine bset ?_ (by assumption) | apply below_alloc | apply pw_below_drewN | apply below_drew1) | exact HB.out))⟩)
       ·skip
        refine box_step ?hg (N := 6) ?hd (cs := #[.string (⟨#[]⟩ : ByteArray), .string (⟨#[]⟩ : ByteArray), .int .i64 0]) (t := 34) ?hr ?_; (case hd => rfl); (case hg => rfl); (case hr => first | (go_simp; done) | (go_simp; rfl))
        intro gb429 hg w106 hbox hb
        have n0_ := Aside0.mk (blk_below (bs BK416.out) hb)
        have n1_ := Aside0.mk (blk_below (bs BK417.out) hb)
        have n2_ := Aside0.mk (below_step (by repeat (first | (with_reducible first | exact bw HB.out | refine bset ?_ (by assumption) | apply below_alloc | apply pw_below_drewN | apply below_drew1) | exact HB.out)) hb)
        have n3_ := Aside0.mk (hbox)
        have n4_ := Aside0.mk ((by rw [hg]; exact (below_size (by repeat (first | (with_reducible first | exact bw HB.out | refine bset ?_ (by assumption) | apply below_alloc | apply pw_below_drewN | apply below_drew1) | exact HB.out))) : w.heap.size ≤ gb429))
        have n5_ := Aside0.mk ((by rw [hg]; exact (below_size (by repeat (first | (with_reducible first | exact bw HB.out | refine bset ?_ (by assumption) | apply below_alloc | apply pw_below_drewN | apply below_drew1) | exact HB.out))) : w.heap.size ≤ gb429))
        have n6_ := ne_ hg BK416.out
        have n7_ := en_ hg BK416.out
        have n8_ := ne_ hg BK417.out
        have n9_ := en_ hg BK417.out
        clear BK416
        clear BK417
        clear HB
        have BK416 := n0_
        have BK417 := n1_
        have HB := n2_
        have BK429 := n3_
        have GW429 := n4_
        have GE429 := n5_
        have NB416_429 := n6_
        have NB429_416 := n7_
        have NB417_429 := n8_
        have NB429_417 := n9_
        clear n0_ n1_ n2_ n3_ n4_ n5_ n6_ n7_ n8_ n9_
        clear hb hbox hg
        refine hK.out _ _ ⟨(blk_cell BK416.out 0).trans rfl, (blk_cell BK416.out 1).trans rfl, (blk_cell BK416.out 2).trans rfl, (blk_cell BK417.out 0).trans rfl, (blk_cell BK417.out 1).trans rfl⟩ (fun hHeld => ?_)
        clear hK K
        refine norm_ (a' := ?_) ?_ ?_
        rotate_left
        ·show Act.put _ (some 6) _ = _
         simp only [aq_]
         rfl
        refine one_ (i := 4) (N := some 25) q6_13 rfl rfl (one_of HT_.out (by kernel_rfl)) (by decide) (fun K hK => ?_)
        refine goes_ Try.func29 (by kernel_rfl) rfl #[.agg #[.string t420, .string t421, .int .i64 t422], .agg #[.string t423, .string t424]] (by rfl) rfl rfl (by (try simp only [mA_]); first | done | rfl | (simp only [List.length_drop, List.length_take]; rfl)) ?_
        with_reducible refine (spec_AppendRecord.calls k t420 t421 t422 t423 t424 t425 t426 t427 t428 _ A21.out).mono ?_
        rintro e w107 ⟨rfl, hb⟩
        refine ⟨_, rfl, ?_⟩
        have n0_ := Aside0.mk (blk_below (bs BK416.out) hb)
        have n1_ := Aside0.mk (blk_below (bs BK417.out) hb)
        have n2_ := Aside0.mk (blk_below (bs BK429.out) hb)
        have n3_ := Aside0.mk (below_step (by repeat (first | (with_reducible first | exact bw HB.out | refine bset ?_ (by assumption) | apply below_alloc | apply pw_below_drewN | apply below_drew1) | exact HB.out)) hb)
        clear BK416
        clear BK417
        clear BK429
        clear HB
        have BK416 := n0_
        have BK417 := n1_
        have BK429 := n2_
        have HB := n3_
        clear n0_ n1_ n2_ n3_
        (try clear hb)
        (try clear hb2)
        (try clear hk)
        (try clear hi)
        refine hK.out _ _ ⟨(blk_cell BK416.out 0).trans rfl, (blk_cell BK416.out 1).trans rfl, (blk_cell BK416.out 2).trans rfl, (blk_cell BK417.out 0).trans rfl, (blk_cell BK417.out 1).trans rfl⟩ (fun hHeld => ?_)
        clear hK K
        refine norm_ (a' := ?_) ?_ ?_
        rotate_left
        ·show Act.put _ (some 25) _ = _
         simp only [aq_]
         rfl
        refine pup_ (i := 5) (N := some 20) (v := ?_) (a' := ?_) HT_ rfl rfl (by kernel_rfl) (fun _ _ _ h => h) (Or.inl ⟨by rfl, ?_⟩) ?_ ?_
        rotate_left
        ·intro w'
         go_simp
         with_reducible rfl
        rotate_left
        ·simp only [aq_]
         rfl
        refine pup_ (i := 6) (N := some 26) (v := ?_) (a' := ?_) HT_ rfl rfl (by kernel_rfl) (fun _ _ _ h => h) (Or.inl ⟨by rfl, ?_⟩) ?_ ?_
        rotate_left
        ·intro w'
         go_simp
         with_reducible rfl
        rotate_left
        ·simp only [aq_]
         rfl
        refine pup_ (i := 7) (N := some 27) (v := ?_) (a' := ?_) HT_ rfl rfl (by kernel_rfl) (fun _ _ _ h => h) (Or.inl ⟨by rfl, ?_⟩) ?_ ?_
        rotate_left
        ·intro w'
         go_simp
         with_reducible rfl
        rotate_left
        ·simp only [aq_]
         rfl
        exact norm_ (by simp only [putAll, Act.put, List.setIfInBounds_toArray, List.set_cons_zero, List.set_cons_succ]) (hCont (gb429) _ ⟨hHeld, (bs BK416.out), (bs BK417.out), (bs BK429.out), GW429.out, GE429.out, NB416_429.out, NB429_416.out, NB417_429.out, NB429_417.out, (by repeat (first | (with_reducible first | exact bw HB.out | refine bset ?_ (by assumption) | apply below_alloc | apply pw_below_drewN | apply below_drew1) | exact HB.out))⟩)
      ·skip
       refine box_step ?hg (N := 6) ?hd (cs := #[.string (⟨#[]⟩ : ByteArray), .string (⟨#[]⟩ : ByteArray), .int .i64 0]) (t := 34) ?hr ?_; (case hd => rfl); (case hg => rfl); (case hr => first | (go_simp; done) | (go_simp; rfl))
       intro gb429 hg w105 hbox hb
       have n0_ := Aside0.mk (blk_below (bs BK416.out) hb)
       have n1_ := Aside0.mk (blk_below (bs BK417.out) hb)
       have n2_ := Aside0.mk (below_step (by repeat (first | (with_reducible first | exact bw HB.out | refine bset ?_ (by assumption) | apply below_alloc | apply pw_below_drewN | apply below_drew1) | exact HB.out)) hb)
       have n3_ := Aside0.mk (hbox)
       have n4_ := Aside0.mk ((by rw [hg]; exact (below_size (by repeat (first | (with_reducible first | exact bw HB.out | refine bset ?_ (by assumption) | apply below_alloc | apply pw_below_drewN | apply below_drew1) | exact HB.out))) : w.heap.size ≤ gb429))
       have n5_ := Aside0.mk ((by rw [hg]; exact (below_size (by repeat (first | (with_reducible first | exact bw HB.out | refine bset ?_ (by assumption) | apply below_alloc | apply pw_below_drewN | apply below_drew1) | exact HB.out))) : w.heap.size ≤ gb429))
       have n6_ := ne_ hg BK416.out
       have n7_ := en_ hg BK416.out
       have n8_ := ne_ hg BK417.out
       have n9_ := en_ hg BK417.out
       clear BK416
       clear BK417
       clear HB
       have BK416 := n0_
       have BK417 := n1_
       have HB := n2_
       have BK429 := n3_
       have GW429 := n4_
       have GE429 := n5_
       have NB416_429 := n6_
       have NB429_416 := n7_
       have NB417_429 := n8_
       have NB429_417 := n9_
       clear n0_ n1_ n2_ n3_ n4_ n5_ n6_ n7_ n8_ n9_
       clear hb hbox hg
       refine hK.out _ _ ⟨(blk_cell BK416.out 0).trans rfl, (blk_cell BK416.out 1).trans rfl, (blk_cell BK416.out 2).trans rfl, (blk_cell BK417.out 0).trans rfl, (blk_cell BK417.out 1).trans rfl⟩ (fun hHeld => ?_)
       clear hK K
       refine norm_ (a' := ?_) ?_ ?_
       rotate_left
       ·show Act.put _ (some 6) _ = _
        simp only [aq_]
        rfl
       refine one_ (i := 3) (N := some 24) q6_9 rfl rfl (one_of HT_.out (by kernel_rfl)) (by decide) (fun K hK => ?_)
       refine goes_ Try.func30 (by kernel_rfl) rfl #[.agg #[.string a1_0, .string a1_1]] (by rfl) rfl rfl (by (try simp only [mA_]); first | done | rfl | (simp only [List.length_drop, List.length_take]; rfl)) ?_
       with_reducible refine (laws_toLogRecord.calls a1_0 a1_1 t423 t424 _ A20.out).mono ?_
       rintro e w106 ⟨rfl, hb⟩
       refine ⟨_, rfl, ?_⟩
       have n0_ := Aside0.mk (blk_below (bs BK416.out) hb)
       have n1_ := Aside0.mk (blk_below (bs BK417.out) hb)
       have n2_ := Aside0.mk (blk_below (bs BK429.out) hb)
       have n3_ := Aside0.mk (below_step (by repeat (first | (with_reducible first | exact bw HB.out | refine bset ?_ (by assumption) | apply below_alloc | apply pw_below_drewN | apply below_drew1) | exact HB.out)) hb)
       clear BK416
       clear BK417
       clear BK429
       clear HB
       have BK416 := n0_
       have BK417 := n1_
       have BK429 := n2_
       have HB := n3_
       clear n0_ n1_ n2_ n3_
       (try clear hb)
       (try clear hb2)
       (try clear hk)
       (try clear hi)
       refine hK.out _ _ ⟨(blk_cell BK416.out 0).trans rfl, (blk_cell BK416.out 1).trans rfl, (blk_cell BK416.out 2).trans rfl, (blk_cell BK417.out 0).trans rfl, (blk_cell BK417.out 1).trans rfl⟩ (fun hHeld => ?_)
       clear hK K
       refine norm_ (a' := ?_) ?_ ?_
       rotate_left
       ·show Act.put _ (some 24) _ = _
        simp only [aq_]
        rfl
       refine one_ (i := 4) (N := some 25) q6_13 rfl rfl (one_of HT_.out (by kernel_rfl)) (by decide) (fun K hK => ?_)
       refine goes_ Try.func29 (by kernel_rfl) rfl #[.agg #[.string t420, .string t421, .int .i64 t422], .agg #[.string t423, .string t424]] (by rfl) rfl rfl (by (try simp only [mA_]); first | done | rfl | (simp only [List.length_drop, List.length_take]; rfl)) ?_
       with_reducible refine (spec_AppendRecord.calls k t420 t421 t422 t423 t424 t425 t426 t427 t428 _ A21.out).mono ?_
       rintro e w107 ⟨rfl, hb⟩
       refine ⟨_, rfl, ?_⟩
       have n0_ := Aside0.mk (blk_below (bs BK416.out) hb)
       have n1_ := Aside0.mk (blk_below (bs BK417.out) hb)
       have n2_ := Aside0.mk (blk_below (bs BK429.out) hb)
       have n3_ := Aside0.mk (below_step (by repeat (first | (with_reducible first | exact bw HB.out | refine bset ?_ (by assumption) | apply below_alloc | apply pw_below_drewN | apply below_drew1) | exact HB.out)) hb)
       clear BK416
       clear BK417
       clear BK429
       clear HB
       have BK416 := n0_
       have BK417 := n1_
       have BK429 := n2_
       have HB := n3_
       clear n0_ n1_ n2_ n3_
       (try clear hb)
       (try clear hb2)
       (try clear hk)
       (try clear hi)
       refine hK.out _ _ ⟨(blk_cell BK416.out 0).trans rfl, (blk_cell BK416.out 1).trans rfl, (blk_cell BK416.out 2).trans rfl, (blk_cell BK417.out 0).trans rfl, (blk_cell BK417.out 1).trans rfl⟩ (fun hHeld => ?_)
       clear hK K
       refine norm_ (a' := ?_) ?_ ?_
       rotate_left
       ·show Act.put _ (some 25) _ = _
        simp only [aq_]
        rfl
       refine pup_ (i := 5) (N := some 20) (v := ?_) (a' := ?_) HT_ rfl rfl (by kernel_rfl) (fun _ _ _ h => h) (Or.inl ⟨by rfl, ?_⟩) ?_ ?_
       rotate_left
       ·intro w'
        go_simp
        with_reducible rfl
       rotate_left
       ·simp only [aq_]
        rfl
       refine pup_ (i := 6) (N := some 26) (v := ?_) (a' := ?_) HT_ rfl rfl (by kernel_rfl) (fun _ _ _ h => h) (Or.inl ⟨by rfl, ?_⟩) ?_ ?_
       rotate_left
       ·intro w'
        go_simp
        with_reducible rfl
       rotate_left
       ·simp only [aq_]
        rfl
       refine pup_ (i := 7) (N := some 27) (v := ?_) (a' := ?_) HT_ rfl rfl (by kernel_rfl) (fun _ _ _ h => h) (Or.inl ⟨by rfl, ?_⟩) ?_ ?_
       rotate_left
       ·intro w'
        go_simp
        with_reducible rfl
       rotate_left
       ·simp only [aq_]
        rfl
       exact norm_ (by simp only [putAll, Act.put, List.setIfInBounds_toArray, List.set_cons_zero, List.set_cons_succ]) (hCont (gb429) _ ⟨hHeld, (bs BK416.out), (bs BK417.out), (bs BK429.out), GW429.out, GE429.out, NB416_429.out, NB429_416.out, NB417_429.out, NB429_417.out, (by repeat (first | (with_reducible first | exact bw HB.out | refine bset ?_ (by assumption) | apply below_alloc | apply pw_below_drewN | apply below_drew1) | exact HB.out))⟩)
     ·skip
      refine box_step ?hg (N := 6) ?hd (cs := #[.string (⟨#[]⟩ : ByteArray), .string (⟨#[]⟩ : ByteArray), .int .i64 0]) (t := 34) ?hr ?_; (case hd => rfl); (case hg => rfl); (case hr => first | (go_simp; done) | (go_simp; rfl))
      intro gb429 hg w104 hbox hb
      have n0_ := Aside0.mk (blk_below (bs BK416.out) hb)
      have n1_ := Aside0.mk (blk_below (bs BK417.out) hb)
      have n2_ := Aside0.mk (below_step (by repeat (first | (with_reducible first | exact bw HB.out | refine bset ?_ (by assumption) | apply below_alloc | apply pw_below_drewN | apply below_drew1) | exact HB.out)) hb)
      have n3_ := Aside0.mk (hbox)
      have n4_ := Aside0.mk ((by rw [hg]; exact (below_size (by repeat (first | (with_reducible first | exact bw HB.out | refine bset ?_ (by assumption) | apply below_alloc | apply pw_below_drewN | apply below_drew1) | exact HB.out))) : w.heap.size ≤ gb429))
      have n5_ := Aside0.mk ((by rw [hg]; exact (below_size (by repeat (first | (with_reducible first | exact bw HB.out | refine bset ?_ (by assumption) | apply below_alloc | apply pw_below_drewN | apply below_drew1) | exact HB.out))) : w.heap.size ≤ gb429))
      have n6_ := ne_ hg BK416.out
      have n7_ := en_ hg BK416.out
      have n8_ := ne_ hg BK417.out
      have n9_ := en_ hg BK417.out
      clear BK416
      clear BK417
      clear HB
      have BK416 := n0_
      have BK417 := n1_
      have HB := n2_
      have BK429 := n3_
      have GW429 := n4_
      have GE429 := n5_
      have NB416_429 := n6_
      have NB429_416 := n7_
      have NB417_429 := n8_
      have NB429_417 := n9_
      clear n0_ n1_ n2_ n3_ n4_ n5_ n6_ n7_ n8_ n9_
      clear hb hbox hg
      refine hK.out _ _ ⟨(blk_cell BK416.out 0).trans rfl, (blk_cell BK416.out 1).trans rfl, (blk_cell BK416.out 2).trans rfl, (blk_cell BK417.out 0).trans rfl, (blk_cell BK417.out 1).trans rfl⟩ (fun hHeld => ?_)
      clear hK K
      refine norm_ (a' := ?_) ?_ ?_
      rotate_left
      ·show Act.put _ (some 6) _ = _
       simp only [aq_]
       rfl
      refine one_ (i := 1) (N := some 22) q6_7 rfl rfl (one_of HT_.out (by kernel_rfl)) (by decide) (fun K hK => ?_)
      refine goes_ Try.func23 (by kernel_rfl) rfl #[.agg #[.string a0_0, .string a0_1, .int .i64 a0_2]] (by rfl) rfl rfl (by (try simp only [mA_]); first | done | rfl | (simp only [List.length_drop, List.length_take]; rfl)) ?_
      with_reducible refine (laws_toLog.calls a0_0 a0_1 a0_2 t420 t421 t422 _ A19.out).mono ?_
      rintro e w105 ⟨rfl, hb⟩
      refine ⟨_, rfl, ?_⟩
      have n0_ := Aside0.mk (blk_below (bs BK416.out) hb)
      have n1_ := Aside0.mk (blk_below (bs BK417.out) hb)
      have n2_ := Aside0.mk (blk_below (bs BK429.out) hb)
      have n3_ := Aside0.mk (below_step (by repeat (first | (with_reducible first | exact bw HB.out | refine bset ?_ (by assumption) | apply below_alloc | apply pw_below_drewN | apply below_drew1) | exact HB.out)) hb)
      clear BK416
      clear BK417
      clear BK429
      clear HB
      have BK416 := n0_
      have BK417 := n1_
      have BK429 := n2_
      have HB := n3_
      clear n0_ n1_ n2_ n3_
      (try clear hb)
      (try clear hb2)
      (try clear hk)
      (try clear hi)
      refine hK.out _ _ ⟨(blk_cell BK416.out 0).trans rfl, (blk_cell BK416.out 1).trans rfl, (blk_cell BK416.out 2).trans rfl, (blk_cell BK417.out 0).trans rfl, (blk_cell BK417.out 1).trans rfl⟩ (fun hHeld => ?_)
      clear hK K
      refine norm_ (a' := ?_) ?_ ?_
      rotate_left
      ·show Act.put _ (some 22) _ = _
       simp only [aq_]
       rfl
      refine one_ (i := 3) (N := some 24) q6_9 rfl rfl (one_of HT_.out (by kernel_rfl)) (by decide) (fun K hK => ?_)
      refine goes_ Try.func30 (by kernel_rfl) rfl #[.agg #[.string a1_0, .string a1_1]] (by rfl) rfl rfl (by (try simp only [mA_]); first | done | rfl | (simp only [List.length_drop, List.length_take]; rfl)) ?_
      with_reducible refine (laws_toLogRecord.calls a1_0 a1_1 t423 t424 _ A20.out).mono ?_
      rintro e w106 ⟨rfl, hb⟩
      refine ⟨_, rfl, ?_⟩
      have n0_ := Aside0.mk (blk_below (bs BK416.out) hb)
      have n1_ := Aside0.mk (blk_below (bs BK417.out) hb)
      have n2_ := Aside0.mk (blk_below (bs BK429.out) hb)
      have n3_ := Aside0.mk (below_step (by repeat (first | (with_reducible first | exact bw HB.out | refine bset ?_ (by assumption) | apply below_alloc | apply pw_below_drewN | apply below_drew1) | exact HB.out)) hb)
      clear BK416
      clear BK417
      clear BK429
      clear HB
      have BK416 := n0_
      have BK417 := n1_
      have BK429 := n2_
      have HB := n3_
      clear n0_ n1_ n2_ n3_
      (try clear hb)
      (try clear hb2)
      (try clear hk)
      (try clear hi)
      refine hK.out _ _ ⟨(blk_cell BK416.out 0).trans rfl, (blk_cell BK416.out 1).trans rfl, (blk_cell BK416.out 2).trans rfl, (blk_cell BK417.out 0).trans rfl, (blk_cell BK417.out 1).trans rfl⟩ (fun hHeld => ?_)
      clear hK K
      refine norm_ (a' := ?_) ?_ ?_
      rotate_left
      ·show Act.put _ (some 24) _ = _
       simp only [aq_]
       rfl
      refine one_ (i := 4) (N := some 25) q6_13 rfl rfl (one_of HT_.out (by kernel_rfl)) (by decide) (fun K hK => ?_)
      refine goes_ Try.func29 (by kernel_rfl) rfl #[.agg #[.string t420, .string t421, .int .i64 t422], .agg #[.string t423, .string t424]] (by rfl) rfl rfl (by (try simp only [mA_]); first | done | rfl | (simp only [List.length_drop, List.length_take]; rfl)) ?_
      with_reducible refine (spec_AppendRecord.calls k t420 t421 t422 t423 t424 t425 t426 t427 t428 _ A21.out).mono ?_
      rintro e w107 ⟨rfl, hb⟩
      refine ⟨_, rfl, ?_⟩
      have n0_ := Aside0.mk (blk_below (bs BK416.out) hb)
      have n1_ := Aside0.mk (blk_below (bs BK417.out) hb)
      have n2_ := Aside0.mk (blk_below (bs BK429.out) hb)
      have n3_ := Aside0.mk (below_step (by repeat (first | (with_reducible first | exact bw HB.out | refine bset ?_ (by assumption) | apply below_alloc | apply pw_below_drewN | apply below_drew1) | exact HB.out)) hb)
      clear BK416
      clear BK417
      clear BK429
      clear HB
      have BK416 := n0_
      have BK417 := n1_
      have BK429 := n2_
      have HB := n3_
      clear n0_ n1_ n2_ n3_
      (try clear hb)
      (try clear hb2)
      (try clear hk)
      (try clear hi)
      refine hK.out _ _ ⟨(blk_cell BK416.out 0).trans rfl, (blk_cell BK416.out 1).trans rfl, (blk_cell BK416.out 2).trans rfl, (blk_cell BK417.out 0).trans rfl, (blk_cell BK417.out 1).trans rfl⟩ (fun hHeld => ?_)
      clear hK K
      refine norm_ (a' := ?_) ?_ ?_
      rotate_left
      ·show Act.put _ (some 25) _ = _
       simp only [aq_]
       rfl
      refine pup_ (i := 5) (N := some 20) (v := ?_) (a' := ?_) HT_ rfl rfl (by kernel_rfl) (fun _ _ _ h => h) (Or.inl ⟨by rfl, ?_⟩) ?_ ?_
      rotate_left
      ·intro w'
       go_simp
       with_reducible rfl
      rotate_left
      ·simp only [aq_]
       rfl
      refine pup_ (i := 6) (N := some 26) (v := ?_) (a' := ?_) HT_ rfl rfl (by kernel_rfl) (fun _ _ _ h => h) (Or.inl ⟨by rfl, ?_⟩) ?_ ?_
      rotate_left
      ·intro w'
       go_simp
       with_reducible rfl
      rotate_left
      ·simp only [aq_]
       rfl
      refine pup_ (i := 7) (N := some 27) (v := ?_) (a' := ?_) HT_ rfl rfl (by kernel_rfl) (fun _ _ _ h => h) (Or.inl ⟨by rfl, ?_⟩) ?_ ?_
      rotate_left
      ·intro w'
       go_simp
       with_reducible rfl
      rotate_left
      ·simp only [aq_]
       rfl
      exact norm_ (by simp only [putAll, Act.put, List.setIfInBounds_toArray, List.set_cons_zero, List.set_cons_succ]) (hCont (gb429) _ ⟨hHeld, (bs BK416.out), (bs BK417.out), (bs BK429.out), GW429.out, GE429.out, NB416_429.out, NB429_416.out, NB417_429.out, NB429_417.out, (by repeat (first | (with_reducible first | exact bw HB.out | refine bset ?_ (by assumption) | apply below_alloc | apply pw_below_drewN | apply below_drew1) | exact HB.out))⟩)
    rintro gb429 w108 ⟨hS_, h0_, h1_, h2_, h3_, h4_, h5_, h6_, h7_, h8_, h9_⟩
    have n0_ : Aside0 (w108.heap[gb416]? = some (.cells #[.string a0_0, .string a0_1, .int .i64 a0_2] 32 (0, 0))) := ⟨h0_⟩
    have n1_ : Aside0 (w108.heap[gb417]? = some (.cells #[.string a1_0, .string a1_1] 44 (0, 0))) := ⟨h1_⟩
    have n2_ : Aside0 (w108.heap[gb429]? = some (.cells #[.string (⟨#[]⟩ : ByteArray), .string (⟨#[]⟩ : ByteArray), .int .i64 0] 34 (0, 0))) := ⟨h2_⟩
    have n3_ : Aside0 (w.heap.size ≤ gb429) := ⟨h3_⟩
    have n4_ : Aside0 (w.heap.size ≤ gb429) := ⟨h4_⟩
    have n5_ : Aside0 (gb416 ≠ gb429) := ⟨h5_⟩
    have n6_ : Aside0 (gb429 ≠ gb416) := ⟨h6_⟩
    have n7_ : Aside0 (gb417 ≠ gb429) := ⟨h7_⟩
    have n8_ : Aside0 (gb429 ≠ gb417) := ⟨h8_⟩
    have n9_ : Aside0 (Below w.heap.size w w108) := ⟨h9_⟩
    clear BK416
    clear BK417
    clear HB
    clear h0_ h1_ h2_ h3_ h4_ h5_ h6_ h7_ h8_ h9_
    have BK416 := n0_
    have BK417 := n1_
    have BK429 := n2_
    have GW429 := n3_
    have GE429 := n4_
    have NB416_429 := n5_
    have NB429_416 := n6_
    have NB417_429 := n7_
    have NB429_417 := n8_
    have HB := n9_
    clear n0_ n1_ n2_ n3_ n4_ n5_ n6_ n7_ n8_ n9_
    have hHeld : w108.cell? ⟨gb416, 0, none⟩ = some (.string a0_0) ∧ w108.cell? ⟨gb416, 1, none⟩ = some (.string a0_1) ∧ w108.cell? ⟨gb416, 2, none⟩ = some (.int .i64 a0_2) ∧ w108.cell? ⟨gb417, 0, none⟩ = some (.string a1_0) ∧ w108.cell? ⟨gb417, 1, none⟩ = some (.string a1_1) := hS_
    refine norm_ (a' := ?_) ?_ ?_
    rotate_left
    ·simp only [putAll, Act.put, List.setIfInBounds_toArray, List.set_cons_zero, List.set_cons_succ]
     rfl
    refine one_ (i := 9) (N := none) q6_16 rfl rfl (one_of HT_.out (by kernel_rfl)) (by decide) (fun K hK => ?_)
    have hs109 : w108.cell? ⟨gb429, 0, none⟩ = some (.string (⟨#[]⟩ : ByteArray)) := (blk_cell BK429.out 0).trans rfl
    have hfs109 := blk_frozen BK429.out 0
    have hns109_0 := NB416_429.out
    have hns109_1 := NB417_429.out
    have hms109_0 := NB429_416.out
    have hms109_1 := NB429_417.out
    have hs110 : w108.cell? ⟨gb429, 1, none⟩ = some (.string (⟨#[]⟩ : ByteArray)) := (blk_cell BK429.out 1).trans rfl
    have hfs110 := blk_frozen BK429.out 1
    have hns110_0 := NB416_429.out
    have hns110_1 := NB417_429.out
    have hms110_0 := NB429_416.out
    have hms110_1 := NB429_417.out
    have hs111 : w108.cell? ⟨gb429, 2, none⟩ = some (.int .i64 0) := (blk_cell BK429.out 2).trans rfl
    have hfs111 := blk_frozen BK429.out 2
    have hns111_0 := NB416_429.out
    have hns111_1 := NB417_429.out
    have hms111_0 := NB429_416.out
    have hms111_1 := NB429_417.out
    refine skip_ (w1 := ?_) (by rfl) rfl ?_ ?_
    rotate_left
    ·go_simp
     rfl
    refine hK.out _ _ ⟨((cell_far (p := ⟨gb429, _, none⟩) NB416_429.out _).trans (((cell_far (p := ⟨gb429, _, none⟩) NB416_429.out _).trans (((cell_far (p := ⟨gb429, _, none⟩) NB416_429.out _).trans (hHeld.1)))))), ((cell_far (p := ⟨gb429, _, none⟩) NB416_429.out _).trans (((cell_far (p := ⟨gb429, _, none⟩) NB416_429.out _).trans (((cell_far (p := ⟨gb429, _, none⟩) NB416_429.out _).trans (hHeld.2.1)))))), ((cell_far (p := ⟨gb429, _, none⟩) NB416_429.out _).trans (((cell_far (p := ⟨gb429, _, none⟩) NB416_429.out _).trans (((cell_far (p := ⟨gb429, _, none⟩) NB416_429.out _).trans (hHeld.2.2.1)))))), ((cell_far (p := ⟨gb429, _, none⟩) NB417_429.out _).trans (((cell_far (p := ⟨gb429, _, none⟩) NB417_429.out _).trans (((cell_far (p := ⟨gb429, _, none⟩) NB417_429.out _).trans (hHeld.2.2.2.1)))))), ((cell_far (p := ⟨gb429, _, none⟩) NB417_429.out _).trans (((cell_far (p := ⟨gb429, _, none⟩) NB417_429.out _).trans (((cell_far (p := ⟨gb429, _, none⟩) NB417_429.out _).trans (hHeld.2.2.2.2))))))⟩ (fun hHeld => ?_)
    clear hK K
    refine pup_ (i := 10) (N := some 7) (v := ?_) (a' := ?_) HT_ rfl rfl (by kernel_rfl) (fun _ _ _ h => h) (Or.inl ⟨by rfl, ?_⟩) ?_ ?_
    rotate_left
    ·intro w'
     go_simp
     with_reducible rfl
    rotate_left
    ·simp only [aq_]
     rfl
    refine done_ (done_of HT_.out (by kernel_rfl)) ?_
    try go_wp2
    have n0_ : Aside0 ((((w108.setCell ⟨gb429, 0, none⟩ (.string t425)).setCell ⟨gb429, 1, none⟩ (.string t426)).setCell ⟨gb429, 2, none⟩ (.int .i64 t427)).heap[gb416]? = some (.cells #[.string a0_0, .string a0_1, .int .i64 a0_2] 32 (0, 0))) := ⟨by (with_reducible repeat (first | refine blk_drewN ?_ _ | refine blk_drew ?_ | refine blk_alloc ?_ _)); refine blk_far ?_ NB416_429.out _; (with_reducible repeat (first | refine blk_drewN ?_ _ | refine blk_drew ?_ | refine blk_alloc ?_ _)); refine blk_far ?_ NB416_429.out _; (with_reducible repeat (first | refine blk_drewN ?_ _ | refine blk_drew ?_ | refine blk_alloc ?_ _)); refine blk_far ?_ NB416_429.out _; exact bs BK416.out⟩
    have n1_ : Aside0 ((((w108.setCell ⟨gb429, 0, none⟩ (.string t425)).setCell ⟨gb429, 1, none⟩ (.string t426)).setCell ⟨gb429, 2, none⟩ (.int .i64 t427)).heap[gb417]? = some (.cells #[.string a1_0, .string a1_1] 44 (0, 0))) := ⟨by (with_reducible repeat (first | refine blk_drewN ?_ _ | refine blk_drew ?_ | refine blk_alloc ?_ _)); refine blk_far ?_ NB417_429.out _; (with_reducible repeat (first | refine blk_drewN ?_ _ | refine blk_drew ?_ | refine blk_alloc ?_ _)); refine blk_far ?_ NB417_429.out _; (with_reducible repeat (first | refine blk_drewN ?_ _ | refine blk_drew ?_ | refine blk_alloc ?_ _)); refine blk_far ?_ NB417_429.out _; exact bs BK417.out⟩
    have n2_ : Aside0 ((((w108.setCell ⟨gb429, 0, none⟩ (.string t425)).setCell ⟨gb429, 1, none⟩ (.string t426)).setCell ⟨gb429, 2, none⟩ (.int .i64 t427)).heap[gb429]? = some (.cells #[.string t425, .string t426, .int .i64 t427] 34 (0, 0))) := ⟨by (with_reducible repeat (first | refine blk_drewN ?_ _ | refine blk_drew ?_ | refine blk_alloc ?_ _)); refine blk_put (cs := #[.string t425, .string t426, .int .i64 0]) ?_ 2 _ rfl; (with_reducible repeat (first | refine blk_drewN ?_ _ | refine blk_drew ?_ | refine blk_alloc ?_ _)); refine blk_put (cs := #[.string t425, .string (⟨#[]⟩ : ByteArray), .int .i64 0]) ?_ 1 _ rfl; (with_reducible repeat (first | refine blk_drewN ?_ _ | refine blk_drew ?_ | refine blk_alloc ?_ _)); refine blk_put (cs := #[.string (⟨#[]⟩ : ByteArray), .string (⟨#[]⟩ : ByteArray), .int .i64 0]) ?_ 0 _ rfl; exact bs BK429.out⟩
    have n3_ : Aside0 (Below w.heap.size w (((w108.setCell ⟨gb429, 0, none⟩ (.string t425)).setCell ⟨gb429, 1, none⟩ (.string t426)).setCell ⟨gb429, 2, none⟩ (.int .i64 t427))) := ⟨by repeat (first | (with_reducible first | exact bw HB.out | refine bset ?_ (by assumption) | apply below_alloc | apply pw_below_drewN | apply below_drew1) | exact HB.out)⟩
    (try clear BK416)
    (try clear BK417)
    (try clear BK429)
    (try clear HB)
    (try simp only [setCell_drewN])
    generalize (((w108.setCell ⟨gb429, 0, none⟩ (.string t425)).setCell ⟨gb429, 1, none⟩ (.string t426)).setCell ⟨gb429, 2, none⟩ (.int .i64 t427)) = w112 at n0_ n1_ n2_ n3_ ⊢
    have BK416 := n0_
    have BK417 := n1_
    have BK429 := n2_
    have HB := n3_
    clear n0_ n1_ n2_ n3_
    have n0_ := Aside0.mk (blk_drew BK416.out)
    have n1_ := Aside0.mk (blk_drew BK417.out)
    have n2_ := Aside0.mk (blk_drew BK429.out)
    have n3_ := Aside0.mk (below_drew1 HB.out)
    clear BK416
    clear BK417
    clear BK429
    clear HB
    have BK416 := n0_
    have BK417 := n1_
    have BK429 := n2_
    have HB := n3_
    clear n0_ n1_ n2_ n3_
    refine start_ (n := 11) (S := fun w' => w'.cell? ⟨gb416, 0, none⟩ = some (.string a0_0) ∧ w'.cell? ⟨gb416, 1, none⟩ = some (.string a0_1) ∧ w'.cell? ⟨gb416, 2, none⟩ = some (.int .i64 a0_2) ∧ w'.cell? ⟨gb417, 0, none⟩ = some (.string a1_0) ∧ w'.cell? ⟨gb417, 1, none⟩ = some (.string a1_1)) (ds := []) q6_0 (by kernel_rfl) rfl rfl ⟨(blk_cell BK416.out 0).trans rfl, (blk_cell BK416.out 1).trans rfl, (blk_cell BK416.out 2).trans rfl, (blk_cell BK417.out 0).trans rfl, (blk_cell BK417.out 1).trans rfl⟩ (fun hHeld => ?_); refine with_tabW laws_FnExactAppendRecord.tab9 laws_FnExactAppendRecord.bits9 (fun HT_ HW_ => ?_)
    generalize w112.drew = w113 at BK416 BK417 BK429 HB hHeld ⊢
    refine take_ (i := 0) (N := some 29) (v := ?_) (a' := ?_) q6_1 rfl rfl (take_ofW HT_.out HW_.out (by kernel_rfl)) (fun _ _ _ h => h) (Or.inl ⟨by rfl, ?_⟩) hHeld ?_ ?_
    rotate_left
    ·rintro w' ⟨s0, s1, s2, s3, s4⟩
     go_simp
     with_reducible rfl
    rotate_left
    ·simp only [aq_]
     rfl
    refine take_ (i := 2) (N := some 31) (v := ?_) (a' := ?_) q6_2 rfl rfl (take_ofW HT_.out HW_.out (by kernel_rfl)) (fun _ _ _ h => h) (Or.inl ⟨by rfl, ?_⟩) hHeld ?_ ?_
    rotate_left
    ·rintro w' ⟨s0, s1, s2, s3, s4⟩
     go_simp
     with_reducible rfl
    rotate_left
    ·simp only [aq_]
     rfl
    refine join_ (σ := Nat) 2 q6_3 (fun s_ => [(30, .agg #[.string t430, .string t431, .int .i64 t432]), (32, .agg #[.string t433, .string t434]), (33, .tuple #[.agg #[.string t435, .string t436, .int .i64 t437], .int .i64 t438]), (8, .pointer (some ⟨s_, 0, none⟩)), (28, .tuple #[.agg #[.string t435, .string t436, .int .i64 t437], .int .i64 t438]), (34, .agg #[.string t435, .string t436, .int .i64 t437]), (35, .int .i64 t438)]) (fun s_ w' => (w'.cell? ⟨gb416, 0, none⟩ = some (.string a0_0) ∧ w'.cell? ⟨gb416, 1, none⟩ = some (.string a0_1) ∧ w'.cell? ⟨gb416, 2, none⟩ = some (.int .i64 a0_2) ∧ w'.cell? ⟨gb417, 0, none⟩ = some (.string a1_0) ∧ w'.cell? ⟨gb417, 1, none⟩ = some (.string a1_1)) ∧ (w'.heap[gb416]? = some (.cells #[.string a0_0, .string a0_1, .int .i64 a0_2] 32 (0, 0))) ∧ (w'.heap[gb417]? = some (.cells #[.string a1_0, .string a1_1] 44 (0, 0))) ∧ (w'.heap[gb429]? = some (.cells #[.string t425, .string t426, .int .i64 t427] 34 (0, 0))) ∧ (w'.heap[s_]? = some (.cells #[.string (⟨#[]⟩ : ByteArray), .string (⟨#[]⟩ : ByteArray), .int .i64 0] 34 (0, 0))) ∧ (w.heap.size ≤ s_) ∧ (w.heap.size ≤ s_) ∧ (gb416 ≠ s_) ∧ (s_ ≠ gb416) ∧ (gb417 ≠ s_) ∧ (s_ ≠ gb417) ∧ (gb429 ≠ s_) ∧ (s_ ≠ gb429) ∧ (Below w.heap.size w w')) ?_ ?_
    rotate_left
    ·intro hCont
     refine two_ (i := 1) (j := 8) (Ni := some 30) (Nj := some 8) q6_4 q6_5 rfl rfl rfl rfl (two_of HT_.out (by kernel_rfl)) (by decide) (by decide) (fun K hK => ?_) (fun K hK => ?_)
     ·skip
      refine goes_ Try.func23 (by kernel_rfl) rfl #[.agg #[.string a0_0, .string a0_1, .int .i64 a0_2]] (by rfl) rfl rfl (by (try simp only [mA_]); first | done | rfl | (simp only [List.length_drop, List.length_take]; rfl)) ?_
      with_reducible refine (laws_toLog.calls a0_0 a0_1 a0_2 t430 t431 t432 _ A22.out).mono ?_
      rintro e w114 ⟨rfl, hb⟩
      refine ⟨_, rfl, ?_⟩
      have n0_ := Aside0.mk (blk_below (bs BK416.out) hb)
      have n1_ := Aside0.mk (blk_below (bs BK417.out) hb)
      have n2_ := Aside0.mk (blk_below (bs BK429.out) hb)
      have n3_ := Aside0.mk (below_step (by repeat (first | (with_reducible first | exact bw HB.out | refine bset ?_ (by assumption) | apply below_alloc | apply pw_below_drewN | apply below_drew1) | exact HB.out)) hb)
      clear BK416
      clear BK417
      clear BK429
      clear HB
      have BK416 := n0_
      have BK417 := n1_
      have BK429 := n2_
      have HB := n3_
      clear n0_ n1_ n2_ n3_
      (try clear hb)
      (try clear hb2)
      (try clear hk)
      (try clear hi)
      refine hK.out _ _ ⟨(blk_cell BK416.out 0).trans rfl, (blk_cell BK416.out 1).trans rfl, (blk_cell BK416.out 2).trans rfl, (blk_cell BK417.out 0).trans rfl, (blk_cell BK417.out 1).trans rfl⟩ (fun hHeld => ?_)
      clear hK K
      refine norm_ (a' := ?_) ?_ ?_
      rotate_left
      ·show Act.put _ (some 30) _ = _
       simp only [aq_]
       rfl
      refine two_ (i := 3) (j := 8) (Ni := some 32) (Nj := some 8) q6_6 q6_7 rfl rfl rfl rfl (two_of HT_.out (by kernel_rfl)) (by decide) (by decide) (fun K hK => ?_) (fun K hK => ?_)
      ·skip
       refine goes_ Try.func30 (by kernel_rfl) rfl #[.agg #[.string a1_0, .string a1_1]] (by rfl) rfl rfl (by (try simp only [mA_]); first | done | rfl | (simp only [List.length_drop, List.length_take]; rfl)) ?_
       with_reducible refine (laws_toLogRecord.calls a1_0 a1_1 t433 t434 _ A23.out).mono ?_
       rintro e w115 ⟨rfl, hb⟩
       refine ⟨_, rfl, ?_⟩
       have n0_ := Aside0.mk (blk_below (bs BK416.out) hb)
       have n1_ := Aside0.mk (blk_below (bs BK417.out) hb)
       have n2_ := Aside0.mk (blk_below (bs BK429.out) hb)
       have n3_ := Aside0.mk (below_step (by repeat (first | (with_reducible first | exact bw HB.out | refine bset ?_ (by assumption) | apply below_alloc | apply pw_below_drewN | apply below_drew1) | exact HB.out)) hb)
       clear BK416
       clear BK417
       clear BK429
       clear HB
       have BK416 := n0_
       have BK417 := n1_
       have BK429 := n2_
       have HB := n3_
       clear n0_ n1_ n2_ n3_
       (try clear hb)
       (try clear hb2)
       (try clear hk)
       (try clear hi)
       refine hK.out _ _ ⟨(blk_cell BK416.out 0).trans rfl, (blk_cell BK416.out 1).trans rfl, (blk_cell BK416.out 2).trans rfl, (blk_cell BK417.out 0).trans rfl, (blk_cell BK417.out 1).trans rfl⟩ (fun hHeld => ?_)
       clear hK K
       refine norm_ (a' := ?_) ?_ ?_
       rotate_left
       ·show Act.put _ (some 32) _ = _
        simp only [aq_]
        rfl
       refine two_ (i := 4) (j := 8) (Ni := some 33) (Nj := some 8) q6_8 q6_9 rfl rfl rfl rfl (two_of HT_.out (by kernel_rfl)) (by decide) (by decide) (fun K hK => ?_) (fun K hK => ?_)
       ·skip
        refine goes_ Try.func31 (by kernel_rfl) rfl #[.agg #[.string t430, .string t431, .int .i64 t432], .agg #[.string t433, .string t434]] (by rfl) rfl rfl (by (try simp only [mA_]); first | done | rfl | (simp only [List.length_drop, List.length_take]; rfl)) ?_
        with_reducible refine (impl_AppendRecord.calls k t430 t431 t432 t433 t434 t435 t436 t437 t438 _ A24.out).mono ?_
        rintro e w116 ⟨rfl, hb⟩
        refine ⟨_, rfl, ?_⟩
        have n0_ := Aside0.mk (blk_below (bs BK416.out) hb)
        have n1_ := Aside0.mk (blk_below (bs BK417.out) hb)
        have n2_ := Aside0.mk (blk_below (bs BK429.out) hb)
        have n3_ := Aside0.mk (below_step (by repeat (first | (with_reducible first | exact bw HB.out | refine bset ?_ (by assumption) | apply below_alloc | apply pw_below_drewN | apply below_drew1) | exact HB.out)) hb)
        clear BK416
        clear BK417
        clear BK429
        clear HB
        have BK416 := n0_
        have BK417 := n1_
        have BK429 := n2_
        have HB := n3_
        clear n0_ n1_ n2_ n3_
        (try clear hb)
        (try clear hb2)
        (try clear hk)
        (try clear hi)
        refine hK.out _ _ ⟨(blk_cell BK416.out 0).trans rfl, (blk_cell BK416.out 1).trans rfl, (blk_cell BK416.out 2).trans rfl, (blk_cell BK417.out 0).trans rfl, (blk_cell BK417.out 1).trans rfl⟩ (fun hHeld => ?_)
        clear hK K
        refine norm_ (a' := ?_) ?_ ?_
        rotate_left
        ·show Act.put _ (some 33) _ = _
         simp only [aq_]
         rfl
        refine pup_ (i := 5) (N := some 28) (v := ?_) (a' := ?_) HT_ rfl rfl (by kernel_rfl) (fun _ _ _ h => h) (Or.inl ⟨by rfl, ?_⟩) ?_ ?_
        rotate_left
        ·intro w'
         go_simp
         with_reducible rfl
        rotate_left
        ·simp only [aq_]
         rfl
        refine pup_ (i := 6) (N := some 34) (v := ?_) (a' := ?_) HT_ rfl rfl (by kernel_rfl) (fun _ _ _ h => h) (Or.inl ⟨by rfl, ?_⟩) ?_ ?_
        rotate_left
        ·intro w'
         go_simp
         with_reducible rfl
        rotate_left
        ·simp only [aq_]
         rfl
        refine pup_ (i := 7) (N := some 35) (v := ?_) (a' := ?_) HT_ rfl rfl (by kernel_rfl) (fun _ _ _ h => h) (Or.inl ⟨by rfl, ?_⟩) ?_ ?_
        rotate_left
        ·intro w'
         go_simp
         with_reducible rfl
        rotate_left
        ·simp only [aq_]
         rfl
        refine one_ (i := 8) (N := some 8) q6_3 rfl rfl (one_of HT_.out (by kernel_rfl)) (by decide) (fun K hK => ?_)
        refine box_step ?hg (N := 8) ?hd (cs := #[.string (⟨#[]⟩ : ByteArray), .string (⟨#[]⟩ : ByteArray), .int .i64 0]) (t := 34) ?hr ?_; (case hd => rfl); (case hg => rfl); (case hr => first | (go_simp; done) | (go_simp; rfl))
        intro gb439 hg w117 hbox hb
        have n0_ := Aside0.mk (blk_below (bs BK416.out) hb)
        have n1_ := Aside0.mk (blk_below (bs BK417.out) hb)
        have n2_ := Aside0.mk (blk_below (bs BK429.out) hb)
        have n3_ := Aside0.mk (below_step (by repeat (first | (with_reducible first | exact bw HB.out | refine bset ?_ (by assumption) | apply below_alloc | apply pw_below_drewN | apply below_drew1) | exact HB.out)) hb)
        have n4_ := Aside0.mk (hbox)
        have n5_ := Aside0.mk ((by rw [hg]; exact (below_size (by repeat (first | (with_reducible first | exact bw HB.out | refine bset ?_ (by assumption) | apply below_alloc | apply pw_below_drewN | apply below_drew1) | exact HB.out))) : w.heap.size ≤ gb439))
        have n6_ := Aside0.mk ((by rw [hg]; exact (below_size (by repeat (first | (with_reducible first | exact bw HB.out | refine bset ?_ (by assumption) | apply below_alloc | apply pw_below_drewN | apply below_drew1) | exact HB.out))) : w.heap.size ≤ gb439))
        have n7_ := ne_ hg BK416.out
        have n8_ := en_ hg BK416.out
        have n9_ := ne_ hg BK417.out
        have n10_ := en_ hg BK417.out
        have n11_ := ne_ hg BK429.out
        have n12_ := en_ hg BK429.out
        clear BK416
        clear BK417
        clear BK429
        clear HB
        have BK416 := n0_
        have BK417 := n1_
        have BK429 := n2_
        have HB := n3_
        have BK439 := n4_
        have GW439 := n5_
        have GE439 := n6_
        have NB416_439 := n7_
        have NB439_416 := n8_
        have NB417_439 := n9_
        have NB439_417 := n10_
        have NB429_439 := n11_
        have NB439_429 := n12_
        clear n0_ n1_ n2_ n3_ n4_ n5_ n6_ n7_ n8_ n9_ n10_ n11_ n12_
        clear hb hbox hg
        refine hK.out _ _ ⟨(blk_cell BK416.out 0).trans rfl, (blk_cell BK416.out 1).trans rfl, (blk_cell BK416.out 2).trans rfl, (blk_cell BK417.out 0).trans rfl, (blk_cell BK417.out 1).trans rfl⟩ (fun hHeld => ?_)
        clear hK K
        refine norm_ (a' := ?_) ?_ ?_
        rotate_left
        ·show Act.put _ (some 8) _ = _
         simp only [aq_]
         rfl
        exact norm_ (by simp only [putAll, Act.put, List.setIfInBounds_toArray, List.set_cons_zero, List.set_cons_succ]) (hCont (gb439) _ ⟨hHeld, (bs BK416.out), (bs BK417.out), (bs BK429.out), (bs BK439.out), GW439.out, GE439.out, NB416_439.out, NB439_416.out, NB417_439.out, NB439_417.out, NB429_439.out, NB439_429.out, (by repeat (first | (with_reducible first | exact bw HB.out | refine bset ?_ (by assumption) | apply below_alloc | apply pw_below_drewN | apply below_drew1) | exact HB.out))⟩)
       ·skip
        refine box_step ?hg (N := 8) ?hd (cs := #[.string (⟨#[]⟩ : ByteArray), .string (⟨#[]⟩ : ByteArray), .int .i64 0]) (t := 34) ?hr ?_; (case hd => rfl); (case hg => rfl); (case hr => first | (go_simp; done) | (go_simp; rfl))
        intro gb439 hg w116 hbox hb
        have n0_ := Aside0.mk (blk_below (bs BK416.out) hb)
        have n1_ := Aside0.mk (blk_below (bs BK417.out) hb)
        have n2_ := Aside0.mk (blk_below (bs BK429.out) hb)
        have n3_ := Aside0.mk (below_step (by repeat (first | (with_reducible first | exact bw HB.out | refine bset ?_ (by assumption) | apply below_alloc | apply pw_below_drewN | apply below_drew1) | exact HB.out)) hb)
        have n4_ := Aside0.mk (hbox)
        have n5_ := Aside0.mk ((by rw [hg]; exact (below_size (by repeat (first | (with_reducible first | exact bw HB.out | refine bset ?_ (by assumption) | apply below_alloc | apply pw_below_drewN | apply below_drew1) | exact HB.out))) : w.heap.size ≤ gb439))
        have n6_ := Aside0.mk ((by rw [hg]; exact (below_size (by repeat (first | (with_reducible first | exact bw HB.out | refine bset ?_ (by assumption) | apply below_alloc | apply pw_below_drewN | apply below_drew1) | exact HB.out))) : w.heap.size ≤ gb439))
        have n7_ := ne_ hg BK416.out
        have n8_ := en_ hg BK416.out
        have n9_ := ne_ hg BK417.out
        have n10_ := en_ hg BK417.out
        have n11_ := ne_ hg BK429.out
        have n12_ := en_ hg BK429.out
        clear BK416
        clear BK417
        clear BK429
        clear HB
        have BK416 := n0_
        have BK417 := n1_
        have BK429 := n2_
        have HB := n3_
        have BK439 := n4_
        have GW439 := n5_
        have GE439 := n6_
        have NB416_439 := n7_
        have NB439_416 := n8_
        have NB417_439 := n9_
        have NB439_417 := n10_
        have NB429_439 := n11_
        have NB439_429 := n12_
        clear n0_ n1_ n2_ n3_ n4_ n5_ n6_ n7_ n8_ n9_ n10_ n11_ n12_
        clear hb hbox hg
        refine hK.out _ _ ⟨(blk_cell BK416.out 0).trans rfl, (blk_cell BK416.out 1).trans rfl, (blk_cell BK416.out 2).trans rfl, (blk_cell BK417.out 0).trans rfl, (blk_cell BK417.out 1).trans rfl⟩ (fun hHeld => ?_)
        clear hK K
        refine norm_ (a' := ?_) ?_ ?_
        rotate_left
        ·show Act.put _ (some 8) _ = _
         simp only [aq_]
         rfl
        refine one_ (i := 4) (N := some 33) q6_13 rfl rfl (one_of HT_.out (by kernel_rfl)) (by decide) (fun K hK => ?_)
        refine goes_ Try.func31 (by kernel_rfl) rfl #[.agg #[.string t430, .string t431, .int .i64 t432], .agg #[.string t433, .string t434]] (by rfl) rfl rfl (by (try simp only [mA_]); first | done | rfl | (simp only [List.length_drop, List.length_take]; rfl)) ?_
        with_reducible refine (impl_AppendRecord.calls k t430 t431 t432 t433 t434 t435 t436 t437 t438 _ A24.out).mono ?_
        rintro e w117 ⟨rfl, hb⟩
        refine ⟨_, rfl, ?_⟩
        have n0_ := Aside0.mk (blk_below (bs BK416.out) hb)
        have n1_ := Aside0.mk (blk_below (bs BK417.out) hb)
        have n2_ := Aside0.mk (blk_below (bs BK429.out) hb)
        have n3_ := Aside0.mk (blk_below (bs BK439.out) hb)
        have n4_ := Aside0.mk (below_step (by repeat (first | (with_reducible first | exact bw HB.out | refine bset ?_ (by assumption) | apply below_alloc | apply pw_below_drewN | apply below_drew1) | exact HB.out)) hb)
        clear BK416
        clear BK417
        clear BK429
        clear BK439
        clear HB
        have BK416 := n0_
        have BK417 := n1_
        have BK429 := n2_
        have BK439 := n3_
        have HB := n4_
        clear n0_ n1_ n2_ n3_ n4_
        (try clear hb)
        (try clear hb2)
        (try clear hk)
        (try clear hi)
        refine hK.out _ _ ⟨(blk_cell BK416.out 0).trans rfl, (blk_cell BK416.out 1).trans rfl, (blk_cell BK416.out 2).trans rfl, (blk_cell BK417.out 0).trans rfl, (blk_cell BK417.out 1).trans rfl⟩ (fun hHeld => ?_)
        clear hK K
        refine norm_ (a' := ?_) ?_ ?_
        rotate_left
        ·show Act.put _ (some 33) _ = _
         simp only [aq_]
         rfl
        refine pup_ (i := 5) (N := some 28) (v := ?_) (a' := ?_) HT_ rfl rfl (by kernel_rfl) (fun _ _ _ h => h) (Or.inl ⟨by rfl, ?_⟩) ?_ ?_
        rotate_left
        ·intro w'
         go_simp
         with_reducible rfl
        rotate_left
        ·simp only [aq_]
         rfl
        refine pup_ (i := 6) (N := some 34) (v := ?_) (a' := ?_) HT_ rfl rfl (by kernel_rfl) (fun _ _ _ h => h) (Or.inl ⟨by rfl, ?_⟩) ?_ ?_
        rotate_left
        ·intro w'
         go_simp
         with_reducible rfl
        rotate_left
        ·simp only [aq_]
         rfl
        refine pup_ (i := 7) (N := some 35) (v := ?_) (a' := ?_) HT_ rfl rfl (by kernel_rfl) (fun _ _ _ h => h) (Or.inl ⟨by rfl, ?_⟩) ?_ ?_
        rotate_left
        ·intro w'
         go_simp
         with_reducible rfl
        rotate_left
        ·simp only [aq_]
         rfl
        exact norm_ (by simp only [putAll, Act.put, List.setIfInBounds_toArray, List.set_cons_zero, List.set_cons_succ]) (hCont (gb439) _ ⟨hHeld, (bs BK416.out), (bs BK417.out), (bs BK429.out), (bs BK439.out), GW439.out, GE439.out, NB416_439.out, NB439_416.out, NB417_439.out, NB439_417.out, NB429_439.out, NB439_429.out, (by repeat (first | (with_reducible first | exact bw HB.out | refine bset ?_ (by assumption) | apply below_alloc | apply pw_below_drewN | apply below_drew1) | exact HB.out))⟩)
      ·skip
       refine box_step ?hg (N := 8) ?hd (cs := #[.string (⟨#[]⟩ : ByteArray), .string (⟨#[]⟩ : ByteArray), .int .i64 0]) (t := 34) ?hr ?_; (case hd => rfl); (case hg => rfl); (case hr => first | (go_simp; done) | (go_simp; rfl))
       intro gb439 hg w115 hbox hb
       have n0_ := Aside0.mk (blk_below (bs BK416.out) hb)
       have n1_ := Aside0.mk (blk_below (bs BK417.out) hb)
       have n2_ := Aside0.mk (blk_below (bs BK429.out) hb)
       have n3_ := Aside0.mk (below_step (by repeat (first | (with_reducible first | exact bw HB.out | refine bset ?_ (by assumption) | apply below_alloc | apply pw_below_drewN | apply below_drew1) | exact HB.out)) hb)
       have n4_ := Aside0.mk (hbox)
       have n5_ := Aside0.mk ((by rw [hg]; exact (below_size (by repeat (first | (with_reducible first | exact bw HB.out | refine bset ?_ (by assumption) | apply below_alloc | apply pw_below_drewN | apply below_drew1) | exact HB.out))) : w.heap.size ≤ gb439))
       have n6_ := Aside0.mk ((by rw [hg]; exact (below_size (by repeat (first | (with_reducible first | exact bw HB.out | refine bset ?_ (by assumption) | apply below_alloc | apply pw_below_drewN | apply below_drew1) | exact HB.out))) : w.heap.size ≤ gb439))
       have n7_ := ne_ hg BK416.out
       have n8_ := en_ hg BK416.out
       have n9_ := ne_ hg BK417.out
       have n10_ := en_ hg BK417.out
       have n11_ := ne_ hg BK429.out
       have n12_ := en_ hg BK429.out
       clear BK416
       clear BK417
       clear BK429
       clear HB
       have BK416 := n0_
       have BK417 := n1_
       have BK429 := n2_
       have HB := n3_
       have BK439 := n4_
       have GW439 := n5_
       have GE439 := n6_
       have NB416_439 := n7_
       have NB439_416 := n8_
       have NB417_439 := n9_
       have NB439_417 := n10_
       have NB429_439 := n11_
       have NB439_429 := n12_
       clear n0_ n1_ n2_ n3_ n4_ n5_ n6_ n7_ n8_ n9_ n10_ n11_ n12_
       clear hb hbox hg
       refine hK.out _ _ ⟨(blk_cell BK416.out 0).trans rfl, (blk_cell BK416.out 1).trans rfl, (blk_cell BK416.out 2).trans rfl, (blk_cell BK417.out 0).trans rfl, (blk_cell BK417.out 1).trans rfl⟩ (fun hHeld => ?_)
       clear hK K
       refine norm_ (a' := ?_) ?_ ?_
       rotate_left
       ·show Act.put _ (some 8) _ = _
        simp only [aq_]
        rfl
       refine one_ (i := 3) (N := some 32) q6_9 rfl rfl (one_of HT_.out (by kernel_rfl)) (by decide) (fun K hK => ?_)
       refine goes_ Try.func30 (by kernel_rfl) rfl #[.agg #[.string a1_0, .string a1_1]] (by rfl) rfl rfl (by (try simp only [mA_]); first | done | rfl | (simp only [List.length_drop, List.length_take]; rfl)) ?_
       with_reducible refine (laws_toLogRecord.calls a1_0 a1_1 t433 t434 _ A23.out).mono ?_
       rintro e w116 ⟨rfl, hb⟩
       refine ⟨_, rfl, ?_⟩
       have n0_ := Aside0.mk (blk_below (bs BK416.out) hb)
       have n1_ := Aside0.mk (blk_below (bs BK417.out) hb)
       have n2_ := Aside0.mk (blk_below (bs BK429.out) hb)
       have n3_ := Aside0.mk (blk_below (bs BK439.out) hb)
       have n4_ := Aside0.mk (below_step (by repeat (first | (with_reducible first | exact bw HB.out | refine bset ?_ (by assumption) | apply below_alloc | apply pw_below_drewN | apply below_drew1) | exact HB.out)) hb)
       clear BK416
       clear BK417
       clear BK429
       clear BK439
       clear HB
       have BK416 := n0_
       have BK417 := n1_
       have BK429 := n2_
       have BK439 := n3_
       have HB := n4_
       clear n0_ n1_ n2_ n3_ n4_
       (try clear hb)
       (try clear hb2)
       (try clear hk)
       (try clear hi)
       refine hK.out _ _ ⟨(blk_cell BK416.out 0).trans rfl, (blk_cell BK416.out 1).trans rfl, (blk_cell BK416.out 2).trans rfl, (blk_cell BK417.out 0).trans rfl, (blk_cell BK417.out 1).trans rfl⟩ (fun hHeld => ?_)
       clear hK K
       refine norm_ (a' := ?_) ?_ ?_
       rotate_left
       ·show Act.put _ (some 32) _ = _
        simp only [aq_]
        rfl
       refine one_ (i := 4) (N := some 33) q6_13 rfl rfl (one_of HT_.out (by kernel_rfl)) (by decide) (fun K hK => ?_)
       refine goes_ Try.func31 (by kernel_rfl) rfl #[.agg #[.string t430, .string t431, .int .i64 t432], .agg #[.string t433, .string t434]] (by rfl) rfl rfl (by (try simp only [mA_]); first | done | rfl | (simp only [List.length_drop, List.length_take]; rfl)) ?_
       with_reducible refine (impl_AppendRecord.calls k t430 t431 t432 t433 t434 t435 t436 t437 t438 _ A24.out).mono ?_
       rintro e w117 ⟨rfl, hb⟩
       refine ⟨_, rfl, ?_⟩
       have n0_ := Aside0.mk (blk_below (bs BK416.out) hb)
       have n1_ := Aside0.mk (blk_below (bs BK417.out) hb)
       have n2_ := Aside0.mk (blk_below (bs BK429.out) hb)
       have n3_ := Aside0.mk (blk_below (bs BK439.out) hb)
       have n4_ := Aside0.mk (below_step (by repeat (first | (with_reducible first | exact bw HB.out | refine bset ?_ (by assumption) | apply below_alloc | apply pw_below_drewN | apply below_drew1) | exact HB.out)) hb)
       clear BK416
       clear BK417
       clear BK429
       clear BK439
       clear HB
       have BK416 := n0_
       have BK417 := n1_
       have BK429 := n2_
       have BK439 := n3_
       have HB := n4_
       clear n0_ n1_ n2_ n3_ n4_
       (try clear hb)
       (try clear hb2)
       (try clear hk)
       (try clear hi)
       refine hK.out _ _ ⟨(blk_cell BK416.out 0).trans rfl, (blk_cell BK416.out 1).trans rfl, (blk_cell BK416.out 2).trans rfl, (blk_cell BK417.out 0).trans rfl, (blk_cell BK417.out 1).trans rfl⟩ (fun hHeld => ?_)
       clear hK K
       refine norm_ (a' := ?_) ?_ ?_
       rotate_left
       ·show Act.put _ (some 33) _ = _
        simp only [aq_]
        rfl
       refine pup_ (i := 5) (N := some 28) (v := ?_) (a' := ?_) HT_ rfl rfl (by kernel_rfl) (fun _ _ _ h => h) (Or.inl ⟨by rfl, ?_⟩) ?_ ?_
       rotate_left
       ·intro w'
        go_simp
        with_reducible rfl
       rotate_left
       ·simp only [aq_]
        rfl
       refine pup_ (i := 6) (N := some 34) (v := ?_) (a' := ?_) HT_ rfl rfl (by kernel_rfl) (fun _ _ _ h => h) (Or.inl ⟨by rfl, ?_⟩) ?_ ?_
       rotate_left
       ·intro w'
        go_simp
        with_reducible rfl
       rotate_left
       ·simp only [aq_]
        rfl
       refine pup_ (i := 7) (N := some 35) (v := ?_) (a' := ?_) HT_ rfl rfl (by kernel_rfl) (fun _ _ _ h => h) (Or.inl ⟨by rfl, ?_⟩) ?_ ?_
       rotate_left
       ·intro w'
        go_simp
        with_reducible rfl
       rotate_left
       ·simp only [aq_]
        rfl
       exact norm_ (by simp only [putAll, Act.put, List.setIfInBounds_toArray, List.set_cons_zero, List.set_cons_succ]) (hCont (gb439) _ ⟨hHeld, (bs BK416.out), (bs BK417.out), (bs BK429.out), (bs BK439.out), GW439.out, GE439.out, NB416_439.out, NB439_416.out, NB417_439.out, NB439_417.out, NB429_439.out, NB439_429.out, (by repeat (first | (with_reducible first | exact bw HB.out | refine bset ?_ (by assumption) | apply below_alloc | apply pw_below_drewN | apply below_drew1) | exact HB.out))⟩)
     ·skip
      refine box_step ?hg (N := 8) ?hd (cs := #[.string (⟨#[]⟩ : ByteArray), .string (⟨#[]⟩ : ByteArray), .int .i64 0]) (t := 34) ?hr ?_; (case hd => rfl); (case hg => rfl); (case hr => first | (go_simp; done) | (go_simp; rfl))
      intro gb439 hg w114 hbox hb
      have n0_ := Aside0.mk (blk_below (bs BK416.out) hb)
      have n1_ := Aside0.mk (blk_below (bs BK417.out) hb)
      have n2_ := Aside0.mk (blk_below (bs BK429.out) hb)
      have n3_ := Aside0.mk (below_step (by repeat (first | (with_reducible first | exact bw HB.out | refine bset ?_ (by assumption) | apply below_alloc | apply pw_below_drewN | apply below_drew1) | exact HB.out)) hb)
      have n4_ := Aside0.mk (hbox)
      have n5_ := Aside0.mk ((by rw [hg]; exact (below_size (by repeat (first | (with_reducible first | exact bw HB.out | refine bset ?_ (by assumption) | apply below_alloc | apply pw_below_drewN | apply below_drew1) | exact HB.out))) : w.heap.size ≤ gb439))
      have n6_ := Aside0.mk ((by rw [hg]; exact (below_size (by repeat (first | (with_reducible first | exact bw HB.out | refine bset ?_ (by assumption) | apply below_alloc | apply pw_below_drewN | apply below_drew1) | exact HB.out))) : w.heap.size ≤ gb439))
      have n7_ := ne_ hg BK416.out
      have n8_ := en_ hg BK416.out
      have n9_ := ne_ hg BK417.out
      have n10_ := en_ hg BK417.out
      have n11_ := ne_ hg BK429.out
      have n12_ := en_ hg BK429.out
      clear BK416
      clear BK417
      clear BK429
      clear HB
      have BK416 := n0_
      have BK417 := n1_
      have BK429 := n2_
      have HB := n3_
      have BK439 := n4_
      have GW439 := n5_
      have GE439 := n6_
      have NB416_439 := n7_
      have NB439_416 := n8_
      have NB417_439 := n9_
      have NB439_417 := n10_
      have NB429_439 := n11_
      have NB439_429 := n12_
      clear n0_ n1_ n2_ n3_ n4_ n5_ n6_ n7_ n8_ n9_ n10_ n11_ n12_
      clear hb hbox hg
      refine hK.out _ _ ⟨(blk_cell BK416.out 0).trans rfl, (blk_cell BK416.out 1).trans rfl, (blk_cell BK416.out 2).trans rfl, (blk_cell BK417.out 0).trans rfl, (blk_cell BK417.out 1).trans rfl⟩ (fun hHeld => ?_)
      clear hK K
      refine norm_ (a' := ?_) ?_ ?_
      rotate_left
      ·show Act.put _ (some 8) _ = _
       simp only [aq_]
       rfl
      refine one_ (i := 1) (N := some 30) q6_7 rfl rfl (one_of HT_.out (by kernel_rfl)) (by decide) (fun K hK => ?_)
      refine goes_ Try.func23 (by kernel_rfl) rfl #[.agg #[.string a0_0, .string a0_1, .int .i64 a0_2]] (by rfl) rfl rfl (by (try simp only [mA_]); first | done | rfl | (simp only [List.length_drop, List.length_take]; rfl)) ?_
      with_reducible refine (laws_toLog.calls a0_0 a0_1 a0_2 t430 t431 t432 _ A22.out).mono ?_
      rintro e w115 ⟨rfl, hb⟩
      refine ⟨_, rfl, ?_⟩
      have n0_ := Aside0.mk (blk_below (bs BK416.out) hb)
      have n1_ := Aside0.mk (blk_below (bs BK417.out) hb)
      have n2_ := Aside0.mk (blk_below (bs BK429.out) hb)
      have n3_ := Aside0.mk (blk_below (bs BK439.out) hb)
      have n4_ := Aside0.mk (below_step (by repeat (first | (with_reducible first | exact bw HB.out | refine bset ?_ (by assumption) | apply below_alloc | apply pw_below_drewN | apply below_drew1) | exact HB.out)) hb)
      clear BK416
      clear BK417
      clear BK429
      clear BK439
      clear HB
      have BK416 := n0_
      have BK417 := n1_
      have BK429 := n2_
      have BK439 := n3_
      have HB := n4_
      clear n0_ n1_ n2_ n3_ n4_
      (try clear hb)
      (try clear hb2)
      (try clear hk)
      (try clear hi)
      refine hK.out _ _ ⟨(blk_cell BK416.out 0).trans rfl, (blk_cell BK416.out 1).trans rfl, (blk_cell BK416.out 2).trans rfl, (blk_cell BK417.out 0).trans rfl, (blk_cell BK417.out 1).trans rfl⟩ (fun hHeld => ?_)
      clear hK K
      refine norm_ (a' := ?_) ?_ ?_
      rotate_left
      ·show Act.put _ (some 30) _ = _
       simp only [aq_]
       rfl
      refine one_ (i := 3) (N := some 32) q6_9 rfl rfl (one_of HT_.out (by kernel_rfl)) (by decide) (fun K hK => ?_)
      refine goes_ Try.func30 (by kernel_rfl) rfl #[.agg #[.string a1_0, .string a1_1]] (by rfl) rfl rfl (by (try simp only [mA_]); first | done | rfl | (simp only [List.length_drop, List.length_take]; rfl)) ?_
      with_reducible refine (laws_toLogRecord.calls a1_0 a1_1 t433 t434 _ A23.out).mono ?_
      rintro e w116 ⟨rfl, hb⟩
      refine ⟨_, rfl, ?_⟩
      have n0_ := Aside0.mk (blk_below (bs BK416.out) hb)
      have n1_ := Aside0.mk (blk_below (bs BK417.out) hb)
      have n2_ := Aside0.mk (blk_below (bs BK429.out) hb)
      have n3_ := Aside0.mk (blk_below (bs BK439.out) hb)
      have n4_ := Aside0.mk (below_step (by repeat (first | (with_reducible first | exact bw HB.out | refine bset ?_ (by assumption) | apply below_alloc | apply pw_below_drewN | apply below_drew1) | exact HB.out)) hb)
      clear BK416
      clear BK417
      clear BK429
      clear BK439
      clear HB
      have BK416 := n0_
      have BK417 := n1_
      have BK429 := n2_
      have BK439 := n3_
      have HB := n4_
      clear n0_ n1_ n2_ n3_ n4_
      (try clear hb)
      (try clear hb2)
      (try clear hk)
      (try clear hi)
      refine hK.out _ _ ⟨(blk_cell BK416.out 0).trans rfl, (blk_cell BK416.out 1).trans rfl, (blk_cell BK416.out 2).trans rfl, (blk_cell BK417.out 0).trans rfl, (blk_cell BK417.out 1).trans rfl⟩ (fun hHeld => ?_)
      clear hK K
      refine norm_ (a' := ?_) ?_ ?_
      rotate_left
      ·show Act.put _ (some 32) _ = _
       simp only [aq_]
       rfl
      refine one_ (i := 4) (N := some 33) q6_13 rfl rfl (one_of HT_.out (by kernel_rfl)) (by decide) (fun K hK => ?_)
      refine goes_ Try.func31 (by kernel_rfl) rfl #[.agg #[.string t430, .string t431, .int .i64 t432], .agg #[.string t433, .string t434]] (by rfl) rfl rfl (by (try simp only [mA_]); first | done | rfl | (simp only [List.length_drop, List.length_take]; rfl)) ?_
      with_reducible refine (impl_AppendRecord.calls k t430 t431 t432 t433 t434 t435 t436 t437 t438 _ A24.out).mono ?_
      rintro e w117 ⟨rfl, hb⟩
      refine ⟨_, rfl, ?_⟩
      have n0_ := Aside0.mk (blk_below (bs BK416.out) hb)
      have n1_ := Aside0.mk (blk_below (bs BK417.out) hb)
      have n2_ := Aside0.mk (blk_below (bs BK429.out) hb)
      have n3_ := Aside0.mk (blk_below (bs BK439.out) hb)
      have n4_ := Aside0.mk (below_step (by repeat (first | (with_reducible first | exact bw HB.out | refine bset ?_ (by assumption) | apply below_alloc | apply pw_below_drewN | apply below_drew1) | exact HB.out)) hb)
      clear BK416
      clear BK417
      clear BK429
      clear BK439
      clear HB
      have BK416 := n0_
      have BK417 := n1_
      have BK429 := n2_
      have BK439 := n3_
      have HB := n4_
      clear n0_ n1_ n2_ n3_ n4_
      (try clear hb)
      (try clear hb2)
      (try clear hk)
      (try clear hi)
      refine hK.out _ _ ⟨(blk_cell BK416.out 0).trans rfl, (blk_cell BK416.out 1).trans rfl, (blk_cell BK416.out 2).trans rfl, (blk_cell BK417.out 0).trans rfl, (blk_cell BK417.out 1).trans rfl⟩ (fun hHeld => ?_)
      clear hK K
      refine norm_ (a' := ?_) ?_ ?_
      rotate_left
      ·show Act.put _ (some 33) _ = _
       simp only [aq_]
       rfl
      refine pup_ (i := 5) (N := some 28) (v := ?_) (a' := ?_) HT_ rfl rfl (by kernel_rfl) (fun _ _ _ h => h) (Or.inl ⟨by rfl, ?_⟩) ?_ ?_
      rotate_left
      ·intro w'
       go_simp
       with_reducible rfl
      rotate_left
      ·simp only [aq_]
       rfl
      refine pup_ (i := 6) (N := some 34) (v := ?_) (a' := ?_) HT_ rfl rfl (by kernel_rfl) (fun _ _ _ h => h) (Or.inl ⟨by rfl, ?_⟩) ?_ ?_
      rotate_left
      ·intro w'
       go_simp
       with_reducible rfl
      rotate_left
      ·simp only [aq_]
       rfl
      refine pup_ (i := 7) (N := some 35) (v := ?_) (a' := ?_) HT_ rfl rfl (by kernel_rfl) (fun _ _ _ h => h) (Or.inl ⟨by rfl, ?_⟩) ?_ ?_
      rotate_left
      ·intro w'
       go_simp
       with_reducible rfl
      rotate_left
      ·simp only [aq_]
       rfl
      exact norm_ (by simp only [putAll, Act.put, List.setIfInBounds_toArray, List.set_cons_zero, List.set_cons_succ]) (hCont (gb439) _ ⟨hHeld, (bs BK416.out), (bs BK417.out), (bs BK429.out), (bs BK439.out), GW439.out, GE439.out, NB416_439.out, NB439_416.out, NB417_439.out, NB439_417.out, NB429_439.out, NB439_429.out, (by repeat (first | (with_reducible first | exact bw HB.out | refine bset ?_ (by assumption) | apply below_alloc | apply pw_below_drewN | apply below_drew1) | exact HB.out))⟩)
    rintro gb439 w118 ⟨hS_, h0_, h1_, h2_, h3_, h4_, h5_, h6_, h7_, h8_, h9_, h10_, h11_, h12_⟩
    have n0_ : Aside0 (w118.heap[gb416]? = some (.cells #[.string a0_0, .string a0_1, .int .i64 a0_2] 32 (0, 0))) := ⟨h0_⟩
    have n1_ : Aside0 (w118.heap[gb417]? = some (.cells #[.string a1_0, .string a1_1] 44 (0, 0))) := ⟨h1_⟩
    have n2_ : Aside0 (w118.heap[gb429]? = some (.cells #[.string t425, .string t426, .int .i64 t427] 34 (0, 0))) := ⟨h2_⟩
    have n3_ : Aside0 (w118.heap[gb439]? = some (.cells #[.string (⟨#[]⟩ : ByteArray), .string (⟨#[]⟩ : ByteArray), .int .i64 0] 34 (0, 0))) := ⟨h3_⟩
    have n4_ : Aside0 (w.heap.size ≤ gb439) := ⟨h4_⟩
    have n5_ : Aside0 (w.heap.size ≤ gb439) := ⟨h5_⟩
    have n6_ : Aside0 (gb416 ≠ gb439) := ⟨h6_⟩
    have n7_ : Aside0 (gb439 ≠ gb416) := ⟨h7_⟩
    have n8_ : Aside0 (gb417 ≠ gb439) := ⟨h8_⟩
    have n9_ : Aside0 (gb439 ≠ gb417) := ⟨h9_⟩
    have n10_ : Aside0 (gb429 ≠ gb439) := ⟨h10_⟩
    have n11_ : Aside0 (gb439 ≠ gb429) := ⟨h11_⟩
    have n12_ : Aside0 (Below w.heap.size w w118) := ⟨h12_⟩
    clear BK416
    clear BK417
    clear BK429
    clear HB
    clear h0_ h1_ h2_ h3_ h4_ h5_ h6_ h7_ h8_ h9_ h10_ h11_ h12_
    have BK416 := n0_
    have BK417 := n1_
    have BK429 := n2_
    have BK439 := n3_
    have GW439 := n4_
    have GE439 := n5_
    have NB416_439 := n6_
    have NB439_416 := n7_
    have NB417_439 := n8_
    have NB439_417 := n9_
    have NB429_439 := n10_
    have NB439_429 := n11_
    have HB := n12_
    clear n0_ n1_ n2_ n3_ n4_ n5_ n6_ n7_ n8_ n9_ n10_ n11_ n12_
    have hHeld : w118.cell? ⟨gb416, 0, none⟩ = some (.string a0_0) ∧ w118.cell? ⟨gb416, 1, none⟩ = some (.string a0_1) ∧ w118.cell? ⟨gb416, 2, none⟩ = some (.int .i64 a0_2) ∧ w118.cell? ⟨gb417, 0, none⟩ = some (.string a1_0) ∧ w118.cell? ⟨gb417, 1, none⟩ = some (.string a1_1) := hS_
    refine norm_ (a' := ?_) ?_ ?_
    rotate_left
    ·simp only [putAll, Act.put, List.setIfInBounds_toArray, List.set_cons_zero, List.set_cons_succ]
     rfl
    refine one_ (i := 9) (N := none) q6_16 rfl rfl (one_of HT_.out (by kernel_rfl)) (by decide) (fun K hK => ?_)
    have hs119 : w118.cell? ⟨gb439, 0, none⟩ = some (.string (⟨#[]⟩ : ByteArray)) := (blk_cell BK439.out 0).trans rfl
    have hfs119 := blk_frozen BK439.out 0
    have hns119_0 := NB416_439.out
    have hns119_1 := NB417_439.out
    have hns119_2 := NB429_439.out
    have hms119_0 := NB439_416.out
    have hms119_1 := NB439_417.out
    have hms119_2 := NB439_429.out
    have hs120 : w118.cell? ⟨gb439, 1, none⟩ = some (.string (⟨#[]⟩ : ByteArray)) := (blk_cell BK439.out 1).trans rfl
    have hfs120 := blk_frozen BK439.out 1
    have hns120_0 := NB416_439.out
    have hns120_1 := NB417_439.out
    have hns120_2 := NB429_439.out
    have hms120_0 := NB439_416.out
    have hms120_1 := NB439_417.out
    have hms120_2 := NB439_429.out
    have hs121 : w118.cell? ⟨gb439, 2, none⟩ = some (.int .i64 0) := (blk_cell BK439.out 2).trans rfl
    have hfs121 := blk_frozen BK439.out 2
    have hns121_0 := NB416_439.out
    have hns121_1 := NB417_439.out
    have hns121_2 := NB429_439.out
    have hms121_0 := NB439_416.out
    have hms121_1 := NB439_417.out
    have hms121_2 := NB439_429.out
    refine skip_ (w1 := ?_) (by rfl) rfl ?_ ?_
    rotate_left
    ·go_simp
     rfl
    refine hK.out _ _ ⟨((cell_far (p := ⟨gb439, _, none⟩) NB416_439.out _).trans (((cell_far (p := ⟨gb439, _, none⟩) NB416_439.out _).trans (((cell_far (p := ⟨gb439, _, none⟩) NB416_439.out _).trans (hHeld.1)))))), ((cell_far (p := ⟨gb439, _, none⟩) NB416_439.out _).trans (((cell_far (p := ⟨gb439, _, none⟩) NB416_439.out _).trans (((cell_far (p := ⟨gb439, _, none⟩) NB416_439.out _).trans (hHeld.2.1)))))), ((cell_far (p := ⟨gb439, _, none⟩) NB416_439.out _).trans (((cell_far (p := ⟨gb439, _, none⟩) NB416_439.out _).trans (((cell_far (p := ⟨gb439, _, none⟩) NB416_439.out _).trans (hHeld.2.2.1)))))), ((cell_far (p := ⟨gb439, _, none⟩) NB417_439.out _).trans (((cell_far (p := ⟨gb439, _, none⟩) NB417_439.out _).trans (((cell_far (p := ⟨gb439, _, none⟩) NB417_439.out _).trans (hHeld.2.2.2.1)))))), ((cell_far (p := ⟨gb439, _, none⟩) NB417_439.out _).trans (((cell_far (p := ⟨gb439, _, none⟩) NB417_439.out _).trans (((cell_far (p := ⟨gb439, _, none⟩) NB417_439.out _).trans (hHeld.2.2.2.2))))))⟩ (fun hHeld => ?_)
    clear hK K
    refine pup_ (i := 10) (N := some 9) (v := ?_) (a' := ?_) HT_ rfl rfl (by kernel_rfl) (fun _ _ _ h => h) (Or.inl ⟨by rfl, ?_⟩) ?_ ?_
    rotate_left
    ·intro w'
     go_simp
     with_reducible rfl
    rotate_left
    ·simp only [aq_]
     rfl
    refine done_ (done_of HT_.out (by kernel_rfl)) ?_
    have hnb122 := NB439_416.out
    have hnc122 := NB416_439.out
    have hnb123 := NB439_417.out
    have hnc123 := NB417_439.out
    have hnb124 := NB439_429.out
    have hnc124 := NB429_439.out
    have hcz125_0 := b3_0 BK439.out
    have hcz125_1 := b3_1 BK439.out
    have hcz125_2 := b3_2 BK439.out
    have hfz125_0 := blk_frozen BK439.out 0
    have hfz125_1 := blk_frozen BK439.out 1
    have hfz125_2 := blk_frozen BK439.out 2
    have hnb126 := NB429_416.out
    have hnc126 := NB416_429.out
    have hnb127 := NB429_417.out
    have hnc127 := NB417_429.out
    have hcz128_0 := b3_0 BK429.out
    have hcz128_1 := b3_1 BK429.out
    have hcz128_2 := b3_2 BK429.out
    have hfz128_0 := blk_frozen BK429.out 0
    have hfz128_1 := blk_frozen BK429.out 1
    have hfz128_2 := blk_frozen BK429.out 2
    try go_wp2_with (first | ((with_reducible refine gate_callee (f := 25) rfl ?_); refine goesL_ (some 38) rfl rfl Try.func25 (by kernel_rfl) rfl #[.agg #[.string t435, .string t436, .int .i64 t437], .agg #[.string t425, .string t426, .int .i64 t427]] rfl (by (try simp only [mA_]); first | done | rfl | (simp only [List.length_drop, List.length_take]; rfl)) ?_; (with_reducible refine (laws_eqLog.calls t435 t436 t437 t425 t426 t427 false _ A25.out).mono ?_); rintro e w129 ⟨rfl, hb⟩; refine ⟨_, rfl, ?_⟩; have n0_ := Aside0.mk (blk_below (g := gb416) (o := .cells #[.string a0_0, .string a0_1, .int .i64 a0_2] 32 (0, 0)) (by (with_reducible repeat (first | refine blk_drewN ?_ _ | refine blk_drew ?_ | refine blk_alloc ?_ _)); refine blk_far ?_ NB416_439.out _; (with_reducible repeat (first | refine blk_drewN ?_ _ | refine blk_drew ?_ | refine blk_alloc ?_ _)); refine blk_far ?_ NB416_439.out _; (with_reducible repeat (first | refine blk_drewN ?_ _ | refine blk_drew ?_ | refine blk_alloc ?_ _)); refine blk_far ?_ NB416_439.out _; exact bs BK416.out) hb); have n1_ := Aside0.mk (blk_below (g := gb417) (o := .cells #[.string a1_0, .string a1_1] 44 (0, 0)) (by (with_reducible repeat (first | refine blk_drewN ?_ _ | refine blk_drew ?_ | refine blk_alloc ?_ _)); refine blk_far ?_ NB417_439.out _; (with_reducible repeat (first | refine blk_drewN ?_ _ | refine blk_drew ?_ | refine blk_alloc ?_ _)); refine blk_far ?_ NB417_439.out _; (with_reducible repeat (first | refine blk_drewN ?_ _ | refine blk_drew ?_ | refine blk_alloc ?_ _)); refine blk_far ?_ NB417_439.out _; exact bs BK417.out) hb); have n2_ := Aside0.mk (blk_below (g := gb429) (o := .cells #[.string t425, .string t426, .int .i64 t427] 34 (0, 0)) (by (with_reducible repeat (first | refine blk_drewN ?_ _ | refine blk_drew ?_ | refine blk_alloc ?_ _)); refine blk_far ?_ NB429_439.out _; (with_reducible repeat (first | refine blk_drewN ?_ _ | refine blk_drew ?_ | refine blk_alloc ?_ _)); refine blk_far ?_ NB429_439.out _; (with_reducible repeat (first | refine blk_drewN ?_ _ | refine blk_drew ?_ | refine blk_alloc ?_ _)); refine blk_far ?_ NB429_439.out _; exact bs BK429.out) hb); have n3_ := Aside0.mk (blk_below (g := gb439) (o := .cells #[.string t435, .string t436, .int .i64 t437] 34 (0, 0)) (by (with_reducible repeat (first | refine blk_drewN ?_ _ | refine blk_drew ?_ | refine blk_alloc ?_ _)); refine blk_put (cs := #[.string t435, .string t436, .int .i64 0]) ?_ 2 _ rfl; (with_reducible repeat (first | refine blk_drewN ?_ _ | refine blk_drew ?_ | refine blk_alloc ?_ _)); refine blk_put (cs := #[.string t435, .string (⟨#[]⟩ : ByteArray), .int .i64 0]) ?_ 1 _ rfl; (with_reducible repeat (first | refine blk_drewN ?_ _ | refine blk_drew ?_ | refine blk_alloc ?_ _)); refine blk_put (cs := #[.string (⟨#[]⟩ : ByteArray), .string (⟨#[]⟩ : ByteArray), .int .i64 0]) ?_ 0 _ rfl; exact bs BK439.out) hb); have n4_ := Aside0.mk (below_step (by repeat (first | (with_reducible first | exact bw HB.out | refine bset ?_ (by assumption) | apply below_alloc | apply pw_below_drewN | apply below_drew1) | exact HB.out)) hb); clear BK416; clear BK417; clear BK429; clear BK439; clear HB; have BK416 := n0_; have BK417 := n1_; have BK429 := n2_; have BK439 := n3_; have HB := n4_; clear n0_ n1_ n2_ n3_ n4_; (try clear hb); (try clear hb2); (try clear hk); (try clear hi)))
    go_ret
    exact ⟨by first | rfl | (simp [errW_none, errW_some] <;> rfl) | (simp [*, errW_none, errW_some] <;> rfl), by repeat (first | (with_reducible first | exact bw HB.out | refine bset ?_ (by assumption) | apply below_alloc | apply pw_below_drewN | apply below_drew1) | exact HB.out)⟩

end Go.Proofs.Ytafdeppeacmpdaa.X
