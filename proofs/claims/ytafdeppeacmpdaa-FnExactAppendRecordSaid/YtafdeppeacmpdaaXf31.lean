-- Written by a program of this session (wip/gen/xp.py, over the kit's printer). Not trusted: Lean checks it.
import Derived.Test.YtafdeppeacmpdaaX0
import Derived.Test.YtafdeppeacmpdaaXf63
import Derived.Test.YtafdeppeacmpdaaXf67
namespace Go.Proofs.Ytafdeppeacmpdaa.X
open Go.RowKit Go.Proofs.YtafdeppeacmpdaaW.PrintWords Go.Proofs.YtafdeppeacmpdaaW.PrintLast Go.Proofs.YtafdeppeacmpdaaW.PrintMore
attribute [local go_sem] max2_int min2_int max_two min_two max_three min_three max_four min_four   -- for this text's walks alone
set_option linter.unusedVariables false
set_option linter.unusedSimpArgs false

/-! ### impl_AppendRecord: function 31 -/
def impl_AppendRecord.j0 : Nat → Bool → ByteArray → ByteArray → Int → ByteArray → ByteArray → Option (ByteArray × ByteArray × Int × Int)
 | 0, _, _, _, _, _, _ => none
 | k + 1, x15, x410000, x410001, x410002, x411000, x411001 => if x15 = true then (some (x410000, x410001, x410002, 1)) else ((impl_EncodeRecord.f k x410002 x411000 x411001).bind fun bt414 => (if bt414.2 = true then (if x410001.size + bt414.1.size ≤ 9223372036854775807 then (some (x410000, x410001 ++ bt414.1, wrap64 (x410002 + 1), 0)) else (none)) else (some (x410000, x410001, x410002, 2))))
def impl_AppendRecord.f (k : Nat) (a0_0 : ByteArray) (a0_1 : ByteArray) (a0_2 : Int) (a1_0 : ByteArray) (a1_1 : ByteArray) : Option (ByteArray × ByteArray × Int × Int) := (impl_IsValidLog.f k a0_0 a0_1 a0_2).bind fun t412 => (if t412 = true then ((impl_IsValidRecord.f k a1_0 a1_1).bind fun t413 => (impl_AppendRecord.j0 k (!t413) a0_0 a0_1 a0_2 a1_0 a1_1)) else (impl_AppendRecord.j0 k true a0_0 a0_1 a0_2 a1_0 a1_1))
theorem impl_AppendRecord.mono_l : ∀ k, (∀ y0 y1 y2 y3 y4 y5, LeO (impl_AppendRecord.j0 k y0 y1 y2 y3 y4 y5) (impl_AppendRecord.j0 (k + 1) y0 y1 y2 y3 y4 y5))
 | 0 => fun _ _ _ _ _ _ r h => by simp [impl_AppendRecord.j0] at h
 | k + 1 => by
  have ih0 := impl_AppendRecord.mono_l k
  ·intro y0 y1 y2 y3 y4 y5
   unfold impl_AppendRecord.j0
   repeat' first
   | (with_reducible exact ih0 _ _ _ _ _ _)
   | (with_reducible exact impl_EncodeRecord.mono _ _ _ _)
   | (with_reducible exact impl_IsValidLog.mono _ _ _ _)
   | (with_reducible exact impl_IsValidRecord.mono _ _ _)
   | (with_reducible exact LeO.refl _)
   | (with_reducible exact LeO.none _)
   | (with_reducible refine LeO.ite ?_ ?_)
   | (with_reducible refine LeO.bind ?_ (fun _ => ?_))
   | exact ih0 _ _ _ _ _ _
   | exact impl_EncodeRecord.mono _ _ _ _
   | exact impl_IsValidLog.mono _ _ _ _
   | exact impl_IsValidRecord.mono _ _ _
   | exact LeO.none _
   | refine LeO.ite ?_ ?_
   | refine LeO.bind ?_ (fun _ => ?_)
theorem impl_AppendRecord.mono : ∀ a0 a1 a2 a3 a4 k, LeO (impl_AppendRecord.f k a0 a1 a2 a3 a4) (impl_AppendRecord.f (k + 1) a0 a1 a2 a3 a4) := by
 intro a0 a1 a2 a3 a4 k
 have ih0 := impl_AppendRecord.mono_l k
 unfold impl_AppendRecord.f
 repeat' first
   | (with_reducible exact ih0 _ _ _ _ _ _)
   | (with_reducible exact impl_EncodeRecord.mono _ _ _ _)
   | (with_reducible exact impl_IsValidLog.mono _ _ _ _)
   | (with_reducible exact impl_IsValidRecord.mono _ _ _)
   | (with_reducible exact LeO.refl _)
   | (with_reducible exact LeO.none _)
   | (with_reducible refine LeO.ite ?_ ?_)
   | (with_reducible refine LeO.bind ?_ (fun _ => ?_))
   | exact ih0 _ _ _ _ _ _
   | exact impl_EncodeRecord.mono _ _ _ _
   | exact impl_IsValidLog.mono _ _ _ _
   | exact impl_IsValidRecord.mono _ _ _
   | exact LeO.none _
   | refine LeO.ite ?_ ?_
   | refine LeO.bind ?_ (fun _ => ?_)
set_option maxHeartbeats 8000000 in
set_option maxRecDepth 100000 in
theorem impl_AppendRecord.calls (k : Nat) (a0_0 : ByteArray) (a0_1 : ByteArray) (a0_2 : Int) (a1_0 : ByteArray) (a1_1 : ByteArray) (r1 : ByteArray) (r2 : ByteArray) (r3 : Int) (r4 : Int) (w : World) (h : impl_AppendRecord.f k a0_0 a0_1 a0_2 a1_0 a1_1 = some (r1, r2, r3, r4)) :
  Calls Try.prog 31 #[.agg #[.string a0_0, .string a0_1, .int .i64 a0_2], .agg #[.string a1_0, .string a1_1]] w fun e w' => e = .returned (.tuple #[.agg #[.string r1, .string r2, .int .i64 r3], .int .i64 r4]) ∧ Below w.heap.size w w' := by
 have hu34 := Try.underlying34
 have hu48 := Try.underlying48
 have HB := Aside0.mk (Below.refl w.heap.size w)
 have H : ((impl_IsValidLog.f k a0_0 a0_1 a0_2).bind fun t412 => (if t412 = true then ((impl_IsValidRecord.f k a1_0 a1_1).bind fun t413 => (impl_AppendRecord.j0 k (!t413) a0_0 a0_1 a0_2 a1_0 a1_1)) else (impl_AppendRecord.j0 k true a0_0 a0_1 a0_2 a1_0 a1_1))) = some (r1, r2, r3, r4) := h
 clear h
 have HC3 := Aside0.mk H
 clear H
 go_enter Try.func31, Try.ntmps31
 go_upto_region 1 with (first | ((with_reducible refine gate_dst (N := 2) rfl ?_); refine box_event ?hg (N := 2) ?hd (cs := #[.string a0_0, .string a0_1, .int .i64 a0_2]) (t := 34) ?hr ?_; (case hd => rfl); (case hg => rfl); (case hr => first | (go_simp; done) | (go_simp; rfl)); intro gb409 hg w4 hbox hb; have n0_ := Aside0.mk (below_step (bw HB.out) hb); have n1_ := Aside0.mk (hbox); have n2_ := ge_ hg HB.out; have n3_ := ge_ hg HB.out; clear HB; have HB := n0_; have BK409 := n1_; have GW409 := n2_; have GE409 := n3_; clear n0_ n1_ n2_ n3_; clear hb hbox hg) | ((with_reducible refine gate_dst (N := 3) rfl ?_); refine box_event ?hg (N := 3) ?hd (cs := #[.string a1_0, .string a1_1]) (t := 48) ?hr ?_; (case hd => rfl); (case hg => rfl); (case hr => first | (go_simp; done) | (go_simp; rfl)); intro gb410 hg w5 hbox hb; have n0_ := Aside0.mk (blk_below (bs BK409.out) hb); have n1_ := Aside0.mk (below_step (by repeat (first | (with_reducible first | exact bw HB.out | refine bset ?_ (by assumption) | apply below_alloc | apply pw_below_drewN | apply below_drew1) | exact HB.out)) hb); have n2_ := Aside0.mk (hbox); have n3_ := Aside0.mk ((by rw [hg]; exact (below_size (by repeat (first | (with_reducible first | exact bw HB.out | refine bset ?_ (by assumption) | apply below_alloc | apply pw_below_drewN | apply below_drew1) | exact HB.out))) : w.heap.size ≤ gb410)); have n4_ := Aside0.mk ((by rw [hg]; exact (below_size (by repeat (first | (with_reducible first | exact bw HB.out | refine bset ?_ (by assumption) | apply below_alloc | apply pw_below_drewN | apply below_drew1) | exact HB.out))) : w.heap.size ≤ gb410)); have n5_ := ne_ hg BK409.out; have n6_ := en_ hg BK409.out; clear BK409; clear HB; have BK409 := n0_; have HB := n1_; have BK410 := n2_; have GW410 := n3_; have GE410 := n4_; have NB409_410 := n5_; have NB410_409 := n6_; clear n0_ n1_ n2_ n3_ n4_ n5_ n6_; clear hb hbox hg) | ((with_reducible refine gate_dst (N := 4) rfl ?_); refine box_event ?hg (N := 4) ?hd (cs := #[.string (⟨#[]⟩ : ByteArray), .string (⟨#[]⟩ : ByteArray), .int .i64 0]) (t := 34) ?hr ?_; (case hd => rfl); (case hg => rfl); (case hr => first | (go_simp; done) | (go_simp; rfl)); intro gb411 hg w6 hbox hb; have n0_ := Aside0.mk (blk_below (bs BK409.out) hb); have n1_ := Aside0.mk (blk_below (bs BK410.out) hb); have n2_ := Aside0.mk (below_step (by repeat (first | (with_reducible first | exact bw HB.out | refine bset ?_ (by assumption) | apply below_alloc | apply pw_below_drewN | apply below_drew1) | exact HB.out)) hb); have n3_ := Aside0.mk (hbox); have n4_ := Aside0.mk ((by rw [hg]; exact (below_size (by repeat (first | (with_reducible first | exact bw HB.out | refine bset ?_ (by assumption) | apply below_alloc | apply pw_below_drewN | apply below_drew1) | exact HB.out))) : w.heap.size ≤ gb411)); have n5_ := Aside0.mk ((by rw [hg]; exact (below_size (by repeat (first | (with_reducible first | exact bw HB.out | refine bset ?_ (by assumption) | apply below_alloc | apply pw_below_drewN | apply below_drew1) | exact HB.out))) : w.heap.size ≤ gb411)); have n6_ := ne_ hg BK409.out; have n7_ := en_ hg BK409.out; have n8_ := ne_ hg BK410.out; have n9_ := en_ hg BK410.out; clear BK409; clear BK410; clear HB; have BK409 := n0_; have BK410 := n1_; have HB := n2_; have BK411 := n3_; have GW411 := n4_; have GE411 := n5_; have NB409_411 := n6_; have NB411_409 := n7_; have NB410_411 := n8_; have NB411_410 := n9_; clear n0_ n1_ n2_ n3_ n4_ n5_ n6_ n7_ n8_ n9_; clear hb hbox hg))
 (try simp only [Act.put, List.setIfInBounds_toArray, List.set_cons_zero, List.set_cons_succ])
 go_cut [15] (fun v15 wc => ∃ (kq : Nat) (x15_2 : Bool), v15 = .bool x15_2 ∧ Aside0 (impl_AppendRecord.j0 kq x15_2 a0_0 a0_1 a0_2 a1_0 a1_1 = some (r1, r2, r3, r4)) ∧ Aside0 (kq ≤ k) ∧ Aside0 (wc.heap[gb409]? = some (.cells #[.string a0_0, .string a0_1, .int .i64 a0_2] 34 (0, 0))) ∧ Aside0 (wc.heap[gb410]? = some (.cells #[.string a1_0, .string a1_1] 48 (0, 0))) ∧ Aside0 (wc.heap[gb411]? = some (.cells #[.string (⟨#[]⟩ : ByteArray), .string (⟨#[]⟩ : ByteArray), .int .i64 0] 34 (0, 0))) ∧ Aside0 (Below w.heap.size w wc))
 case first =>
  have H := HC3.out
  clear HC3
  replace H := Option.bind_eq_some_iff.mp H
  obtain ⟨t412, A70, H⟩ := H
  replace H : (if t412 = true then ((impl_IsValidRecord.f k a1_0 a1_1).bind fun t413 => (impl_AppendRecord.j0 k (!t413) a0_0 a0_1 a0_2 a1_0 a1_1)) else (impl_AppendRecord.j0 k true a0_0 a0_1 a0_2 a1_0 a1_1)) = some (r1, r2, r3, r4) := H
  have A7 := Aside0.mk A70
  clear A70
  by_cases c8 : t412 = true
  ·subst c8
   have H1 : ((impl_IsValidRecord.f k a1_0 a1_1).bind fun t413 => (impl_AppendRecord.j0 k (!t413) a0_0 a0_1 a0_2 a1_0 a1_1)) = some (r1, r2, r3, r4) := by rw [if_pos rfl] at H; exact H
   clear H
   have H := H1
   clear H1
   replace H := Option.bind_eq_some_iff.mp H
   obtain ⟨t413, A90, H⟩ := H
   replace H : (impl_AppendRecord.j0 k (!t413) a0_0 a0_1 a0_2 a1_0 a1_1) = some (r1, r2, r3, r4) := H
   have A9 := Aside0.mk A90
   clear A90
   have H' := Aside0.mk H
   clear H
   have hnb10 := NB409_410.out
   have hnc10 := NB410_409.out
   have hnb11 := NB409_411.out
   have hnc11 := NB411_409.out
   have hcz12_0 := b3_0 BK409.out
   have hcz12_1 := b3_1 BK409.out
   have hcz12_2 := b3_2 BK409.out
   have hfz12_0 := blk_frozen BK409.out 0
   have hfz12_1 := blk_frozen BK409.out 1
   have hfz12_2 := blk_frozen BK409.out 2
   go_wp2_with (first | ((with_reducible refine gate_callee (f := 69) rfl ?_); refine goesL_ (some 9) rfl rfl Try.func69 (by kernel_rfl) rfl #[.agg #[.string a0_0, .string a0_1, .int .i64 a0_2]] rfl (by (try simp only [mA_]); first | done | rfl | (simp only [List.length_drop, List.length_take]; rfl)) ?_; (with_reducible refine (impl_IsValidLog.calls k a0_0 a0_1 a0_2 true _ A7.out).mono ?_); rintro e w13 ⟨rfl, hb⟩; refine ⟨_, rfl, ?_⟩; have n0_ := Aside0.mk (blk_below (bs BK409.out) hb); have n1_ := Aside0.mk (blk_below (bs BK410.out) hb); have n2_ := Aside0.mk (blk_below (bs BK411.out) hb); have n3_ := Aside0.mk (below_step (by repeat (first | (with_reducible first | exact bw HB.out | refine bset ?_ (by assumption) | apply below_alloc | apply pw_below_drewN | apply below_drew1) | exact HB.out)) hb); clear BK409; clear BK410; clear BK411; clear HB; have BK409 := n0_; have BK410 := n1_; have BK411 := n2_; have HB := n3_; clear n0_ n1_ n2_ n3_; (try clear hb); (try clear hb2); (try clear hk); (try clear hi); have hnb14 := NB410_411.out; have hnc14 := NB411_410.out; have hcz15_0 := b2_0 BK410.out; have hcz15_1 := b2_1 BK410.out; have hfz15_0 := blk_frozen BK410.out 0; have hfz15_1 := blk_frozen BK410.out 1) | (go_at_call 67; (with_reducible refine (impl_IsValidRecord.calls k a1_0 a1_1 t413 _ A9.out).mono ?_); rintro e w16 ⟨rfl, hb⟩; have n0_ := Aside0.mk (blk_below (bs BK409.out) hb); have n1_ := Aside0.mk (blk_below (bs BK410.out) hb); have n2_ := Aside0.mk (blk_below (bs BK411.out) hb); have n3_ := Aside0.mk (below_step (by repeat (first | (with_reducible first | exact bw HB.out | refine bset ?_ (by assumption) | apply below_alloc | apply pw_below_drewN | apply below_drew1) | exact HB.out)) hb); clear BK409; clear BK410; clear BK411; clear HB; have BK409 := n0_; have BK410 := n1_; have BK411 := n2_; have HB := n3_; clear n0_ n1_ n2_ n3_; (try clear hb); (try clear hb2); (try clear hk); (try clear hi)))
   go_meet
   case rel => exact ⟨_, (!t413), (by first | rfl | (simp; done) | (simp [*]; done)), H', ⟨by first | omega | exact Nat.le_refl _⟩, ⟨bs BK409.out⟩, ⟨bs BK410.out⟩, ⟨bs BK411.out⟩, ⟨by repeat (first | (with_reducible first | exact bw HB.out | refine bset ?_ (by assumption) | apply below_alloc | apply pw_below_drewN | apply below_drew1) | exact HB.out)⟩⟩
  ·replace c8 := Bool.eq_false_iff.mpr c8
   subst c8
   have H1 : (impl_AppendRecord.j0 k true a0_0 a0_1 a0_2 a1_0 a1_1) = some (r1, r2, r3, r4) := by rw [if_neg (show ¬ (false = true) by decide)] at H; exact H
   clear H
   have H := H1
   clear H1
   have H' := Aside0.mk H
   clear H
   have hnb17 := NB409_410.out
   have hnc17 := NB410_409.out
   have hnb18 := NB409_411.out
   have hnc18 := NB411_409.out
   have hcz19_0 := b3_0 BK409.out
   have hcz19_1 := b3_1 BK409.out
   have hcz19_2 := b3_2 BK409.out
   have hfz19_0 := blk_frozen BK409.out 0
   have hfz19_1 := blk_frozen BK409.out 1
   have hfz19_2 := blk_frozen BK409.out 2
   go_wp2_with (first | ((with_reducible refine gate_callee (f := 69) rfl ?_); refine goesL_ (some 9) rfl rfl Try.func69 (by kernel_rfl) rfl #[.agg #[.string a0_0, .string a0_1, .int .i64 a0_2]] rfl (by (try simp only [mA_]); first | done | rfl | (simp only [List.length_drop, List.length_take]; rfl)) ?_; (with_reducible refine (impl_IsValidLog.calls k a0_0 a0_1 a0_2 false _ A7.out).mono ?_); rintro e w20 ⟨rfl, hb⟩; refine ⟨_, rfl, ?_⟩; have n0_ := Aside0.mk (blk_below (bs BK409.out) hb); have n1_ := Aside0.mk (blk_below (bs BK410.out) hb); have n2_ := Aside0.mk (blk_below (bs BK411.out) hb); have n3_ := Aside0.mk (below_step (by repeat (first | (with_reducible first | exact bw HB.out | refine bset ?_ (by assumption) | apply below_alloc | apply pw_below_drewN | apply below_drew1) | exact HB.out)) hb); clear BK409; clear BK410; clear BK411; clear HB; have BK409 := n0_; have BK410 := n1_; have BK411 := n2_; have HB := n3_; clear n0_ n1_ n2_ n3_; (try clear hb); (try clear hb2); (try clear hk); (try clear hi)))
   go_meet
   case rel => exact ⟨_, (true), (by first | rfl | (simp; done) | (simp [*]; done)), H', ⟨by first | omega | exact Nat.le_refl _⟩, ⟨bs BK409.out⟩, ⟨bs BK410.out⟩, ⟨bs BK411.out⟩, ⟨by repeat (first | (with_reducible first | exact bw HB.out | refine bset ?_ (by assumption) | apply below_alloc | apply pw_below_drewN | apply below_drew1) | exact HB.out)⟩⟩
 case rest =>
  clear HC3
  try clear c1
  try clear p2
  try clear c3
  try clear c6
  try clear c8
  try clear c10
  try clear c11
  try clear c14
  try clear c17
  try clear c18
  try clear hcz12_0
  try clear hcz12_1
  try clear hcz12_2
  try clear hcz15_0
  try clear hcz15_1
  try clear hcz19_0
  try clear hcz19_1
  try clear hcz19_2
  try clear hfz12_0
  try clear hfz12_1
  try clear hfz12_2
  try clear hfz15_0
  try clear hfz15_1
  try clear hfz19_0
  try clear hfz19_1
  try clear hfz19_2
  obtain ⟨kq, x15_2, rfl, HA, HJ2, BK409, BK410, BK411, HB⟩ := hcut
  cases kq with
  | zero => exact absurd HA.out (by simp [impl_AppendRecord.j0])
  | succ kj2 =>
   have H := HA.out
   clear HA
   simp only [impl_AppendRecord.j0] at H
   by_cases c21 : x15_2 = true
   ·subst c21
    have H1 : (some (a0_0, a0_1, a0_2, 1)) = some (r1, r2, r3, r4) := by rw [if_pos rfl] at H; exact H
    clear H
    have H := H1
    clear H1
    simp only [Option.some.injEq, Prod.mk.injEq] at H
    obtain ⟨rfl, rfl, rfl, rfl⟩ := H
    have hnb22 := NB409_410.out
    have hnc22 := NB410_409.out
    have hnb23 := NB409_411.out
    have hnc23 := NB411_409.out
    have hcz24_0 := b3_0 BK409.out
    have hcz24_1 := b3_1 BK409.out
    have hcz24_2 := b3_2 BK409.out
    have hfz24_0 := blk_frozen BK409.out 0
    have hfz24_1 := blk_frozen BK409.out 1
    have hfz24_2 := blk_frozen BK409.out 2
    have hnb25 := NB411_410.out
    have hnc25 := NB410_411.out
    have hcz26_0 := b3_0 BK411.out
    have hcz26_1 := b3_1 BK411.out
    have hcz26_2 := b3_2 BK411.out
    have hfz26_0 := blk_frozen BK411.out 0
    have hfz26_1 := blk_frozen BK411.out 1
    have hfz26_2 := blk_frozen BK411.out 2
    go_wp2
    refine bodyPost_ret (results_ct rfl _ _ gb411 34 #[.string a0_0, .string a0_1, .int .i64 a0_2] (0, 0) _ rfl (by (with_reducible repeat (first | refine blk_drewN ?_ _ | refine blk_drew ?_ | refine blk_alloc ?_ _)); refine blk_put (cs := #[.string a0_0, .string a0_1, .int .i64 0]) ?_ 2 _ rfl; (with_reducible repeat (first | refine blk_drewN ?_ _ | refine blk_drew ?_ | refine blk_alloc ?_ _)); refine blk_put (cs := #[.string a0_0, .string (⟨#[]⟩ : ByteArray), .int .i64 0]) ?_ 1 _ rfl; (with_reducible repeat (first | refine blk_drewN ?_ _ | refine blk_drew ?_ | refine blk_alloc ?_ _)); refine blk_put (cs := #[.string (⟨#[]⟩ : ByteArray), .string (⟨#[]⟩ : ByteArray), .int .i64 0]) ?_ 0 _ rfl; exact bs BK411.out) Try.underlying34 rfl (by kernel_rfl)) rfl ?_
    exact ⟨by first | rfl | (simp [errW_none, errW_some] <;> rfl) | (simp [*, errW_none, errW_some] <;> rfl), by repeat (first | (with_reducible first | exact bw HB.out | refine bset ?_ (by assumption) | apply below_alloc | apply pw_below_drewN | apply below_drew1) | exact HB.out)⟩
   ·replace c21 := Bool.eq_false_iff.mpr c21
    subst c21
    have H1 : ((impl_EncodeRecord.f kj2 a0_2 a1_0 a1_1).bind fun bt414 => (if bt414.2 = true then (if a0_1.size + bt414.1.size ≤ 9223372036854775807 then (some (a0_0, a0_1 ++ bt414.1, wrap64 (a0_2 + 1), 0)) else (none)) else (some (a0_0, a0_1, a0_2, 2)))) = some (r1, r2, r3, r4) := by rw [if_neg (show ¬ (false = true) by decide)] at H; exact H
    clear H
    have H := H1
    clear H1
    replace H := Option.bind_eq_some_iff.mp H
    obtain ⟨⟨t414, t415⟩, A270, H⟩ := H
    replace H : (if t415 = true then (if a0_1.size + t414.size ≤ 9223372036854775807 then (some (a0_0, a0_1 ++ t414, wrap64 (a0_2 + 1), 0)) else (none)) else (some (a0_0, a0_1, a0_2, 2))) = some (r1, r2, r3, r4) := H
    have A27 := Aside0.mk A270
    clear A270
    by_cases c28 : t415 = true
    ·subst c28
     have H1 : (if a0_1.size + t414.size ≤ 9223372036854775807 then (some (a0_0, a0_1 ++ t414, wrap64 (a0_2 + 1), 0)) else (none)) = some (r1, r2, r3, r4) := by rw [if_pos rfl] at H; exact H
     clear H
     have H := H1
     clear H1
     by_cases c29 : a0_1.size + t414.size ≤ 9223372036854775807
     ·rw [if_pos c29] at H
      have c29b0 := eq_true c29
      have c29b1 : decide (a0_1.size + t414.size ≤ 9223372036854775807) = true := decide_eq_true c29
      try have c29b2 : (9223372036854775807 < a0_1.size + t414.size) = False := eq_false (Nat.not_lt.2 c29)
      simp only [Option.some.injEq, Prod.mk.injEq] at H
      obtain ⟨rfl, rfl, rfl, rfl⟩ := H
      have hnb30 := NB409_410.out
      have hnc30 := NB410_409.out
      have hnb31 := NB409_411.out
      have hnc31 := NB411_409.out
      have hcz32_0 := b3_0 BK409.out
      have hcz32_1 := b3_1 BK409.out
      have hcz32_2 := b3_2 BK409.out
      have hfz32_0 := blk_frozen BK409.out 0
      have hfz32_1 := blk_frozen BK409.out 1
      have hfz32_2 := blk_frozen BK409.out 2
      have hnb33 := NB410_411.out
      have hnc33 := NB411_410.out
      have hcz34_0 := b2_0 BK410.out
      have hcz34_1 := b2_1 BK410.out
      have hfz34_0 := blk_frozen BK410.out 0
      have hfz34_1 := blk_frozen BK410.out 1
      go_wp2_with (first | ((with_reducible refine gate_callee (f := 63) rfl ?_); refine goesL_ (some 21) rfl rfl Try.func63 (by kernel_rfl) rfl #[.int .i64 a0_2, .agg #[.string a1_0, .string a1_1]] rfl (by (try simp only [mA_]); first | done | rfl | (simp only [List.length_drop, List.length_take]; rfl)) ?_; (with_reducible refine (impl_EncodeRecord.calls kj2 a0_2 a1_0 a1_1 t414 true _ A27.out).mono ?_); rintro e w35 ⟨rfl, hb⟩; refine ⟨_, rfl, ?_⟩; have n0_ := Aside0.mk (blk_below (bs BK409.out) hb); have n1_ := Aside0.mk (blk_below (bs BK410.out) hb); have n2_ := Aside0.mk (blk_below (bs BK411.out) hb); have n3_ := Aside0.mk (below_step (by repeat (first | (with_reducible first | exact bw HB.out | refine bset ?_ (by assumption) | apply below_alloc | apply pw_below_drewN | apply below_drew1) | exact HB.out)) hb); clear BK409; clear BK410; clear BK411; clear HB; have BK409 := n0_; have BK410 := n1_; have BK411 := n2_; have HB := n3_; clear n0_ n1_ n2_ n3_; (try clear hb); (try clear hb2); (try clear hk); (try clear hi); have hcz36_0 := b3_0 BK409.out; have hcz36_1 := b3_1 BK409.out; have hcz36_2 := b3_2 BK409.out; have hfz36_0 := blk_frozen BK409.out 0; have hfz36_1 := blk_frozen BK409.out 1; have hfz36_2 := blk_frozen BK409.out 2; have hcz37_0 := b3_0 BK411.out; have hcz37_1 := b3_1 BK411.out; have hcz37_2 := b3_2 BK411.out; have hfz37_0 := blk_frozen BK411.out 0; have hfz37_1 := blk_frozen BK411.out 1; have hfz37_2 := blk_frozen BK411.out 2))
      refine bodyPost_ret (results_ct rfl _ _ gb411 34 #[.string a0_0, .string (a0_1 ++ t414), .int .i64 (wrap64 (a0_2 + 1))] (0, 0) _ rfl (by (with_reducible repeat (first | refine blk_drewN ?_ _ | refine blk_drew ?_ | refine blk_alloc ?_ _)); refine blk_put (cs := #[.string a0_0, .string (a0_1 ++ t414), .int .i64 0]) ?_ 2 _ rfl; (with_reducible repeat (first | refine blk_drewN ?_ _ | refine blk_drew ?_ | refine blk_alloc ?_ _)); refine blk_put (cs := #[.string a0_0, .string (⟨#[]⟩ : ByteArray), .int .i64 0]) ?_ 1 _ rfl; (with_reducible repeat (first | refine blk_drewN ?_ _ | refine blk_drew ?_ | refine blk_alloc ?_ _)); refine blk_put (cs := #[.string (⟨#[]⟩ : ByteArray), .string (⟨#[]⟩ : ByteArray), .int .i64 0]) ?_ 0 _ rfl; exact bs BK411.out) Try.underlying34 rfl (by kernel_rfl)) rfl ?_
      exact ⟨by first | rfl | (simp [errW_none, errW_some] <;> rfl) | (simp [*, errW_none, errW_some] <;> rfl), by repeat (first | (with_reducible first | exact bw HB.out | refine bset ?_ (by assumption) | apply below_alloc | apply pw_below_drewN | apply below_drew1) | exact HB.out)⟩
     ·rw [if_neg c29] at H
      exact absurd H (by simp)
    ·replace c28 := Bool.eq_false_iff.mpr c28
     subst c28
     have H1 : (some (a0_0, a0_1, a0_2, 2)) = some (r1, r2, r3, r4) := by rw [if_neg (show ¬ (false = true) by decide)] at H; exact H
     clear H
     have H := H1
     clear H1
     simp only [Option.some.injEq, Prod.mk.injEq] at H
     obtain ⟨rfl, rfl, rfl, rfl⟩ := H
     have hnb38 := NB409_410.out
     have hnc38 := NB410_409.out
     have hnb39 := NB409_411.out
     have hnc39 := NB411_409.out
     have hcz40_0 := b3_0 BK409.out
     have hcz40_1 := b3_1 BK409.out
     have hcz40_2 := b3_2 BK409.out
     have hfz40_0 := blk_frozen BK409.out 0
     have hfz40_1 := blk_frozen BK409.out 1
     have hfz40_2 := blk_frozen BK409.out 2
     have hnb41 := NB410_411.out
     have hnc41 := NB411_410.out
     have hcz42_0 := b2_0 BK410.out
     have hcz42_1 := b2_1 BK410.out
     have hfz42_0 := blk_frozen BK410.out 0
     have hfz42_1 := blk_frozen BK410.out 1
     go_wp2_with (first | ((with_reducible refine gate_callee (f := 63) rfl ?_); refine goesL_ (some 21) rfl rfl Try.func63 (by kernel_rfl) rfl #[.int .i64 a0_2, .agg #[.string a1_0, .string a1_1]] rfl (by (try simp only [mA_]); first | done | rfl | (simp only [List.length_drop, List.length_take]; rfl)) ?_; (with_reducible refine (impl_EncodeRecord.calls kj2 a0_2 a1_0 a1_1 t414 false _ A27.out).mono ?_); rintro e w43 ⟨rfl, hb⟩; refine ⟨_, rfl, ?_⟩; have n0_ := Aside0.mk (blk_below (bs BK409.out) hb); have n1_ := Aside0.mk (blk_below (bs BK410.out) hb); have n2_ := Aside0.mk (blk_below (bs BK411.out) hb); have n3_ := Aside0.mk (below_step (by repeat (first | (with_reducible first | exact bw HB.out | refine bset ?_ (by assumption) | apply below_alloc | apply pw_below_drewN | apply below_drew1) | exact HB.out)) hb); clear BK409; clear BK410; clear BK411; clear HB; have BK409 := n0_; have BK410 := n1_; have BK411 := n2_; have HB := n3_; clear n0_ n1_ n2_ n3_; (try clear hb); (try clear hb2); (try clear hk); (try clear hi); have hcz44_0 := b3_0 BK409.out; have hcz44_1 := b3_1 BK409.out; have hcz44_2 := b3_2 BK409.out; have hfz44_0 := blk_frozen BK409.out 0; have hfz44_1 := blk_frozen BK409.out 1; have hfz44_2 := blk_frozen BK409.out 2; have hcz45_0 := b3_0 BK411.out; have hcz45_1 := b3_1 BK411.out; have hcz45_2 := b3_2 BK411.out; have hfz45_0 := blk_frozen BK411.out 0; have hfz45_1 := blk_frozen BK411.out 1; have hfz45_2 := blk_frozen BK411.out 2))
     refine bodyPost_ret (results_ct rfl _ _ gb411 34 #[.string a0_0, .string a0_1, .int .i64 a0_2] (0, 0) _ rfl (by (with_reducible repeat (first | refine blk_drewN ?_ _ | refine blk_drew ?_ | refine blk_alloc ?_ _)); refine blk_put (cs := #[.string a0_0, .string a0_1, .int .i64 0]) ?_ 2 _ rfl; (with_reducible repeat (first | refine blk_drewN ?_ _ | refine blk_drew ?_ | refine blk_alloc ?_ _)); refine blk_put (cs := #[.string a0_0, .string (⟨#[]⟩ : ByteArray), .int .i64 0]) ?_ 1 _ rfl; (with_reducible repeat (first | refine blk_drewN ?_ _ | refine blk_drew ?_ | refine blk_alloc ?_ _)); refine blk_put (cs := #[.string (⟨#[]⟩ : ByteArray), .string (⟨#[]⟩ : ByteArray), .int .i64 0]) ?_ 0 _ rfl; exact bs BK411.out) Try.underlying34 rfl (by kernel_rfl)) rfl ?_
     exact ⟨by first | rfl | (simp [errW_none, errW_some] <;> rfl) | (simp [*, errW_none, errW_some] <;> rfl), by repeat (first | (with_reducible first | exact bw HB.out | refine bset ?_ (by assumption) | apply below_alloc | apply pw_below_drewN | apply below_drew1) | exact HB.out)⟩

end Go.Proofs.Ytafdeppeacmpdaa.X
