/- The law FnExactAppendRecord answers true for every input and leaves its arguments as they were; there is no condition. (The row: written by a program of this session, wip/gen/xp.py; what is proved of numbers and lists stands in YtafdeppeacmpdaaPureFnExactAppendRecord.) -/
import Derived.Test.YtafdeppeacmpdaaRows
import Derived.Test.YtafdeppeacmpdaaXP
import Derived.Test.YtafdeppeacmpdaaXO
import Derived.Test.YtafdeppeacmpdaaXf6
import Derived.Test.YtafdeppeacmpdaaPureFnExactAppendRecord
import Derived.WalkKit
import Derived.ProofKit
import Derived.OpenShut
import Derived.ShutString
import Derived.ChangeOld
import Derived.Below
import Derived.SizedLaws
namespace Go.Proofs.Ytafdeppeacmpdaa.fnExactAppendRecord
open Go.ChangeShapes Go.WideShapes Go.ChangeAt Go.RowKit Go.Proofs.Ytafdeppeacmpdaa.X Go.Proofs.Ytafdeppeacmpdaa.XRow
open Go.ChangeMaps (open_string shut_string)
set_option linter.unusedVariables false
theorem own : ownKnob Try.prog.godebug = none := by kernel_rfl
theorem laidOut : laidOutB Try.prog = true := by kernel_rfl
set_option maxRecDepth 100000 in
theorem lifted (os : Os) (started : os.Started) (H : Type) (enc : TypeId × Value → H) :
    ReturnsInHanded {} Try.checked os 6 .any (Rows.fnExactAppendRecordSpec.pre6 enc Try.prog Try.f6 Rows.fnExactAppendRecordRow.domain false) (Rows.fnExactAppendRecordSpec.post enc Try.prog Try.f6 false true false false) := by
  refine returnsInHanded_of_change_sized (C := Try.checked) own started (by kernel_rfl) Try.func6
    (ChangeSpec.witness6 (enc := enc) (C := Try.checked) false ⟨#[], #[.agg #[.string ByteArray.empty, .string ByteArray.empty, .int .i64 0], .agg #[.string ByteArray.empty, .string ByteArray.empty]], []⟩ 8 (by kernel_rfl) (by kernel_rfl) (by kernel_rfl) (by kernel_rfl)) ?_
  intro W base args ds gs before hval0 hW hcnd hsz0 _
  have hval : ∀ (j : Nat) t v, Try.f6.params[j]? = some t → args[j]? = some v → Value.okWide Try.prog W .any base t v := hval0
  have hW' := hW
  obtain ⟨p, q, hA0, hV, rfl, hfz, hnd⟩ := hW
  have hA : DataW.TrodAll enc Try.prog W 0 (fun _ => true) true Try.f6.params.toList args.toList ds p := hA0
  rw [Try.params6] at hA hval
  obtain ⟨v0, vs0, d0, ds0, p0, q0, hargs, rfl, rfl, h0, r0⟩ := trodAll_cons hA
  obtain ⟨v1, vs1, d1, ds1, p1, q1, rfl, rfl, rfl, h1, r1⟩ := trodAll_cons r0
  obtain ⟨rfl, rfl, rfl⟩ := trodAll_nil r1
  obtain rfl : args = #[v0, v1] := by cases args; simp_all
  obtain ⟨rfl, rfl⟩ := trodVars_none hV
  have k0 := h0
  have lt0 : ∀ x ∈ p0, x.block < W.heap.size := by obtain ⟨m, hm⟩ := k0; exact DataW.trod_lt m _ _ _ hm
  obtain ⟨y0, cs0, rfl, hk0, ho0⟩ := arg_agg Try.underlying32 ch32 (hval 0 32 v0 rfl rfl) h0
  obtain ⟨_, _, rfl, rfl, ⟨_, _, rfl, rfl, rfl⟩⟩ := hk0
  have k1 := h1
  have lt1 : ∀ x ∈ p1, x.block < W.heap.size := by obtain ⟨m, hm⟩ := k1; exact DataW.trod_lt m _ _ _ hm
  obtain ⟨y1, cs1, rfl, hk1, ho1⟩ := arg_agg Try.underlying44 ch44 (hval 1 44 v1 rfl rfl) h1
  obtain ⟨_, _, rfl, rfl, rfl⟩ := hk1
  clear hA0 hval0 hsz0
  obtain ⟨k_, hk_⟩ := Pure.FnExactAppendRecord (y0.1) (y0.2.1) (y0.2.2) (y1.1) (y1.2) ho0.1 ho0.2.1 ho0.2.2 ho1.1 ho1.2
  show Calls Try.prog 6 #[.agg #[.string (y0.1), .string (y0.2.1), .int .i64 (y0.2.2)], .agg #[.string (y1.1), .string (y1.2)]] W _
  refine (laws_FnExactAppendRecord.calls k_ (y0.1) (y0.2.1) (y0.2.2) (y1.1) (y1.2) true W  hk_).mono fun e W' ⟨he, bel0⟩ => ?_
  have bel : Below W.heap.size W W' := bel0
  subst he
  exact ⟨_, rfl, _, _, _, [], _, [], hW', trodAll_mk1 (shut_bool Try.underlying4 _), (trodAll_cons_mk (Below.trod laidOut (by kernel_rfl) (of_decide_eq_true (by kernel_rfl)) k0 bel lt0) (trodAll_cons_mk (Below.trod laidOut (by kernel_rfl) (of_decide_eq_true (by kernel_rfl)) k1 bel lt1) trodAll_mk0)), rfl, bel.frame _, fun h => by cases h⟩
theorem reach1 : Try.prog.inPlace 6 = Rows.fnExactAppendRecordRow.inPlace := by kernel_rfl
theorem reach2 : Try.prog.unfollowed 6 = Rows.fnExactAppendRecordRow.unfollowed := by kernel_rfl
theorem reach3 : Try.prog.recurses 6 = Rows.fnExactAppendRecordRow.recurses := by kernel_rfl
theorem reach4 : Try.prog.varsNamed 6 = Rows.fnExactAppendRecordRow.named := by kernel_rfl
theorem closed : joinedFacts Try.prog 6 Try.f6 Rows.fnExactAppendRecordSpec Rows.fnExactAppendRecordRow = true := by
  unfold joinedFacts
  rw [XP.may, show Try.prog.liftsFinal = Rows.fnExactAppendRecordRow.lifted from XP.lifts, show Try.prog.make = some Rows.fnExactAppendRecordRow.make from XP.makes, reach1, reach2, reach3, reach4]
  kernel_rfl
theorem wraps : Try.f6.isWrapper Try.prog Rows.fnExactAppendRecordRow.wrapper Rows.fnExactAppendRecordRow.mainSum := by
  unfold Func.isWrapper
  first | (rw [if_pos (by decide +kernel)]; kernel_rfl) | (rw [if_neg (by decide +kernel)]; exact ⟨rfl, rfl⟩)
theorem over : Rows.fnExactAppendRecordRow.holds Try.pinned (OpenSpec.ofChange Rows.fnExactAppendRecordSpec) :=
  OpenClaim.holds_of_wide 6 Try.f6 rfl rfl rfl rfl rfl rfl rfl ⟨rfl, rfl, rfl, rfl, rfl⟩ rfl rfl rfl rfl rfl (by kernel_rfl) Try.func6 closed (of_decide_eq_true (by kernel_rfl)) wraps
    (fun os started H enc _ => lifted os started H enc)
theorem proved : Rows.FnExactAppendRecordSaid := over
#print axioms proved
end Go.Proofs.Ytafdeppeacmpdaa.fnExactAppendRecord
namespace Go.Proofs.Ytafdeppeacmpdaa
/-- The row, under a short name, for the claim. -/
theorem fnExactAppendRecord_holds : Rows.FnExactAppendRecordSaid := fnExactAppendRecord.proved
end Go.Proofs.Ytafdeppeacmpdaa
