/- The law FnExactNewDispatcher answers true for every input and leaves its arguments as they were; there is no condition. (The row: written by a program of this session, wip/gen/xp.py; what is proved of numbers and lists stands in YtafdeppeacmpdaaPureFnExactNewDispatcher.) -/
import Derived.Test.YtafdeppeacmpdaaRows
import Derived.Test.YtafdeppeacmpdaaXP
import Derived.Test.YtafdeppeacmpdaaXO
import Derived.Test.YtafdeppeacmpdaaXf3
import Derived.Test.YtafdeppeacmpdaaPureFnExactNewDispatcher
import Derived.WalkKit
import Derived.ProofKit
import Derived.OpenShut
import Derived.ShutString
import Derived.ChangeOld
import Derived.Below
import Derived.SizedLaws
namespace Go.Proofs.Ytafdeppeacmpdaa.fnExactNewDispatcher
open Go.ChangeShapes Go.WideShapes Go.ChangeAt Go.RowKit Go.Proofs.Ytafdeppeacmpdaa.X Go.Proofs.Ytafdeppeacmpdaa.XRow
open Go.ChangeMaps (open_string shut_string)
set_option linter.unusedVariables false
theorem own : ownKnob Try.prog.godebug = none := by kernel_rfl
theorem laidOut : laidOutB Try.prog = true := by kernel_rfl
set_option maxRecDepth 100000 in
theorem lifted (os : Os) (started : os.Started) (H : Type) (enc : TypeId × Value → H) :
    ReturnsInHanded {} Try.checked os 3 .any (Rows.fnExactNewDispatcherSpec.pre6 enc Try.prog Try.f3 Rows.fnExactNewDispatcherRow.domain false) (Rows.fnExactNewDispatcherSpec.post enc Try.prog Try.f3 false true false false) := by
  refine returnsInHanded_of_change_sized (C := Try.checked) own started (by kernel_rfl) Try.func3
    (ChangeSpec.witness6 (enc := enc) (C := Try.checked) false ⟨#[], #[.int .i64 0, .int .i64 0], []⟩ 8 (by kernel_rfl) (by kernel_rfl) (by kernel_rfl) (by kernel_rfl)) ?_
  intro W base args ds gs before hval0 hW hcnd hsz0 _
  have hval : ∀ (j : Nat) t v, Try.f3.params[j]? = some t → args[j]? = some v → Value.okWide Try.prog W .any base t v := hval0
  have hW' := hW
  obtain ⟨p, q, hA0, hV, rfl, hfz, hnd⟩ := hW
  have hA : DataW.TrodAll enc Try.prog W 0 (fun _ => true) true Try.f3.params.toList args.toList ds p := hA0
  rw [Try.params3] at hA hval
  obtain ⟨v0, vs0, d0, ds0, p0, q0, hargs, rfl, rfl, h0, r0⟩ := trodAll_cons hA
  obtain ⟨v1, vs1, d1, ds1, p1, q1, rfl, rfl, rfl, h1, r1⟩ := trodAll_cons r0
  obtain ⟨rfl, rfl, rfl⟩ := trodAll_nil r1
  obtain rfl : args = #[v0, v1] := by cases args; simp_all
  obtain ⟨rfl, rfl⟩ := trodVars_none hV
  obtain ⟨a0, rfl, rfl, rfl, w0⟩ := open_int Try.underlying3 (hval 0 3 v0 rfl rfl) h0
  obtain ⟨a1, rfl, rfl, rfl, w1⟩ := open_int Try.underlying3 (hval 1 3 v1 rfl rfl) h1
  clear hA0 hval0 hsz0
  obtain ⟨k_, hk_⟩ := Pure.FnExactNewDispatcher a0 a1 w0 w1
  show Calls Try.prog 3 #[.int .i64 a0, .int .i64 a1] W _
  refine (laws_FnExactNewDispatcher.calls k_ a0 a1 true W  hk_).mono fun e W' ⟨he, bel0⟩ => ?_
  have bel : Below W.heap.size W W' := bel0
  subst he
  exact ⟨_, rfl, _, _, _, [], _, [], hW', trodAll_mk1 (shut_bool Try.underlying4 _), (trodAll_cons_mk (shut_int Try.underlying3 w0) (trodAll_cons_mk (shut_int Try.underlying3 w1) trodAll_mk0)), rfl, bel.frame _, fun h => by cases h⟩
theorem reach1 : Try.prog.inPlace 3 = Rows.fnExactNewDispatcherRow.inPlace := by kernel_rfl
theorem reach2 : Try.prog.unfollowed 3 = Rows.fnExactNewDispatcherRow.unfollowed := by kernel_rfl
theorem reach3 : Try.prog.recurses 3 = Rows.fnExactNewDispatcherRow.recurses := by kernel_rfl
theorem reach4 : Try.prog.varsNamed 3 = Rows.fnExactNewDispatcherRow.named := by kernel_rfl
theorem closed : joinedFacts Try.prog 3 Try.f3 Rows.fnExactNewDispatcherSpec Rows.fnExactNewDispatcherRow = true := by
  unfold joinedFacts
  rw [XP.may, show Try.prog.liftsFinal = Rows.fnExactNewDispatcherRow.lifted from XP.lifts, show Try.prog.make = some Rows.fnExactNewDispatcherRow.make from XP.makes, reach1, reach2, reach3, reach4]
  kernel_rfl
theorem wraps : Try.f3.isWrapper Try.prog Rows.fnExactNewDispatcherRow.wrapper Rows.fnExactNewDispatcherRow.mainSum := by
  unfold Func.isWrapper
  first | (rw [if_pos (by decide +kernel)]; kernel_rfl) | (rw [if_neg (by decide +kernel)]; exact ⟨rfl, rfl⟩)
theorem over : Rows.fnExactNewDispatcherRow.holds Try.pinned (OpenSpec.ofChange Rows.fnExactNewDispatcherSpec) :=
  OpenClaim.holds_of_wide 3 Try.f3 rfl rfl rfl rfl rfl rfl rfl ⟨rfl, rfl, rfl, rfl, rfl⟩ rfl rfl rfl rfl rfl (by kernel_rfl) Try.func3 closed (of_decide_eq_true (by kernel_rfl)) wraps
    (fun os started H enc _ => lifted os started H enc)
theorem proved : Rows.FnExactNewDispatcherSaid := over
#print axioms proved
end Go.Proofs.Ytafdeppeacmpdaa.fnExactNewDispatcher
namespace Go.Proofs.Ytafdeppeacmpdaa
/-- The row, under a short name, for the claim. -/
theorem fnExactNewDispatcher_holds : Rows.FnExactNewDispatcherSaid := fnExactNewDispatcher.proved
end Go.Proofs.Ytafdeppeacmpdaa
