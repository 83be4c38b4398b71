/- The law FnExactDispatchGap answers true for every input and leaves its arguments as they were; there is no condition. (The row: written by a program of this session, wip/gen/xp.py; what is proved of numbers and lists stands in YtoagdnojoodloaaPureFnExactDispatchGap.) -/
import Derived.Test.YtoagdnojoodloaaRows
import Derived.Test.YtoagdnojoodloaaXP
import Derived.Test.YtoagdnojoodloaaXO
import Derived.Test.YtoagdnojoodloaaXf5
import Derived.Test.YtoagdnojoodloaaPureFnExactDispatchGap
import Derived.WalkKit
import Derived.ProofKit
import Derived.OpenShut
import Derived.ShutString
import Derived.ChangeOld
import Derived.Below
import Derived.SizedLaws
namespace Go.Proofs.Ytoagdnojoodloaa.fnExactDispatchGap
open Go.ChangeShapes Go.WideShapes Go.ChangeAt Go.RowKit Go.Proofs.Ytoagdnojoodloaa.X Go.Proofs.Ytoagdnojoodloaa.XRow
open Go.ChangeMaps (open_string shut_string)
set_option linter.unusedVariables false
theorem own : ownKnob Try.prog.godebug = none := by kernel_rfl
theorem laidOut : laidOutB Try.prog = true := by kernel_rfl
set_option maxRecDepth 100000 in
theorem lifted (os : Os) (started : os.Started) (H : Type) (enc : TypeId × Value → H) :
    ReturnsInHanded {} Try.checked os 5 .any (Rows.fnExactDispatchGapSpec.pre6 enc Try.prog Try.f5 Rows.fnExactDispatchGapRow.domain false) (Rows.fnExactDispatchGapSpec.post enc Try.prog Try.f5 false true false false) := by
  refine returnsInHanded_of_change_sized (C := Try.checked) own started (by kernel_rfl) Try.func5
    (ChangeSpec.witness6 (enc := enc) (C := Try.checked) false ⟨#[], #[.agg #[.int .i64 0, .int .i64 0, .int .i64 0, .slice none 0 0, .slice none 0 0], .int .i64 0], []⟩ 8 (by kernel_rfl) (by kernel_rfl) (by kernel_rfl) (by kernel_rfl)) ?_
  intro W base args ds gs before hval0 hW hcnd hsz0 _
  have hval : ∀ (j : Nat) t v, Try.f5.params[j]? = some t → args[j]? = some v → Value.okWide Try.prog W .any base t v := hval0
  have hW' := hW
  obtain ⟨p, q, hA0, hV, rfl, hfz, hnd⟩ := hW
  have hA : DataW.TrodAll enc Try.prog W 0 (fun _ => true) true Try.f5.params.toList args.toList ds p := hA0
  rw [Try.params5] at hA hval
  obtain ⟨v0, vs0, d0, ds0, p0, q0, hargs, rfl, rfl, h0, r0⟩ := trodAll_cons hA
  obtain ⟨v1, vs1, d1, ds1, p1, q1, rfl, rfl, rfl, h1, r1⟩ := trodAll_cons r0
  obtain ⟨rfl, rfl, rfl⟩ := trodAll_nil r1
  obtain rfl : args = #[v0, v1] := by cases args; simp_all
  obtain ⟨rfl, rfl⟩ := trodVars_none hV
  have k0 := h0
  have lt0 : ∀ x ∈ p0, x.block < W.heap.size := by obtain ⟨m, hm⟩ := k0; exact DataW.trod_lt m _ _ _ hm
  obtain ⟨y0, cs0, rfl, hk0, ho0⟩ := arg_agg Try.underlying38 ch38 (hval 0 38 v0 rfl rfl) h0
  obtain ⟨_, _, rfl, rfl, ⟨_, _, rfl, rfl, ⟨_, _, rfl, rfl, ⟨_, _, rfl, ⟨A0_3, c0_3, rfl, hc0_3, hr0_3⟩, ⟨A0_4, c0_4, rfl, hc0_4, hr0_4⟩⟩⟩⟩⟩ := hk0
  obtain ⟨a1, rfl, rfl, rfl, w1⟩ := open_int Try.underlying3 (hval 1 3 v1 rfl rfl) h1
  clear hA0 hval0 hsz0
  obtain ⟨k_, hk_⟩ := Pure.FnExactDispatchGap (y0.1) (y0.2.1) (y0.2.2.1) (y0.2.2.2.1) (y0.2.2.2.2) a1 ho0.1 ho0.2.1 ho0.2.2.1 ho0.2.2.2.1 ho0.2.2.2.2 (I64.of_wf w1)
  show Calls Try.prog 5 #[.agg #[.int .i64 (y0.1), .int .i64 (y0.2.1), .int .i64 (y0.2.2.1), .slice A0_3 (y0.2.2.2.1).length c0_3, .slice A0_4 (y0.2.2.2.2).length c0_4], .int .i64 a1] W _
  refine (laws_FnExactDispatchGap.calls k_ (y0.1) (y0.2.1) (y0.2.2.1) A0_3 c0_3 (y0.2.2.2.1) A0_4 c0_4 (y0.2.2.2.2) a1 true W hr0_3 hc0_3 hr0_4 hc0_4 hk_).mono fun e W' ⟨he, bel0⟩ => ?_
  have bel : Below W.heap.size W W' := bel0
  subst he
  exact ⟨_, rfl, _, _, _, [], _, [], hW', trodAll_mk1 (shut_bool Try.underlying4 _), (trodAll_cons_mk (Below.trod laidOut (by kernel_rfl) (of_decide_eq_true (by kernel_rfl)) k0 bel lt0) (trodAll_cons_mk (shut_int Try.underlying3 w1) trodAll_mk0)), rfl, bel.frame _, fun h => by cases h⟩
theorem reach1 : Try.prog.inPlace 5 = Rows.fnExactDispatchGapRow.inPlace := by kernel_rfl
theorem reach2 : Try.prog.unfollowed 5 = Rows.fnExactDispatchGapRow.unfollowed := by kernel_rfl
theorem reach3 : Try.prog.recurses 5 = Rows.fnExactDispatchGapRow.recurses := by kernel_rfl
theorem reach4 : Try.prog.varsNamed 5 = Rows.fnExactDispatchGapRow.named := by kernel_rfl
theorem closed : joinedFacts Try.prog 5 Try.f5 Rows.fnExactDispatchGapSpec Rows.fnExactDispatchGapRow = true := by
  unfold joinedFacts
  rw [XP.may, show Try.prog.liftsFinal = Rows.fnExactDispatchGapRow.lifted from XP.lifts, show Try.prog.make = some Rows.fnExactDispatchGapRow.make from XP.makes, reach1, reach2, reach3, reach4]
  kernel_rfl
theorem wraps : Try.f5.isWrapper Try.prog Rows.fnExactDispatchGapRow.wrapper Rows.fnExactDispatchGapRow.mainSum := by
  unfold Func.isWrapper
  first | (rw [if_pos (by decide +kernel)]; kernel_rfl) | (rw [if_neg (by decide +kernel)]; exact ⟨rfl, rfl⟩)
theorem over : Rows.fnExactDispatchGapRow.holds Try.pinned (OpenSpec.ofChange Rows.fnExactDispatchGapSpec) :=
  OpenClaim.holds_of_wide 5 Try.f5 rfl rfl rfl rfl rfl rfl rfl ⟨rfl, rfl, rfl, rfl, rfl⟩ rfl rfl rfl rfl rfl (by kernel_rfl) Try.func5 closed (of_decide_eq_true (by kernel_rfl)) wraps
    (fun os started H enc _ => lifted os started H enc)
theorem proved : Rows.FnExactDispatchGapSaid := over
#print axioms proved
end Go.Proofs.Ytoagdnojoodloaa.fnExactDispatchGap
namespace Go.Proofs.Ytoagdnojoodloaa
/-- The row, under a short name, for the claim. -/
theorem fnExactDispatchGap_holds : Rows.FnExactDispatchGapSaid := fnExactDispatchGap.proved
end Go.Proofs.Ytoagdnojoodloaa
