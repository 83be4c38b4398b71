/- The law FnLogs answers true for every input and leaves its arguments as they were; there is no condition. (The row: written by a program of this session, wip/gen/xp.py; what is proved of numbers and lists stands in YteakcfnhigaffaaPureFnLogs.) -/
import Derived.Test.YteakcfnhigaffaaRows
import Derived.Test.YteakcfnhigaffaaXP
import Derived.Test.YteakcfnhigaffaaXO
import Derived.Test.YteakcfnhigaffaaXf3
import Derived.Test.YteakcfnhigaffaaPureFnLogs
import Derived.WalkKit
import Derived.ProofKit
import Derived.OpenShut
import Derived.ShutString
import Derived.ChangeOld
import Derived.Below
import Derived.SizedLaws
namespace Go.Proofs.Yteakcfnhigaffaa.fnLogs
open Go.ChangeShapes Go.WideShapes Go.ChangeAt Go.RowKit Go.Proofs.Yteakcfnhigaffaa.X Go.Proofs.Yteakcfnhigaffaa.XRow
open Go.ChangeMaps (open_string shut_string)
set_option linter.unusedVariables false
theorem own : ownKnob Try.prog.godebug = none := by kernel_rfl
theorem laidOut : laidOutB Try.prog = true := by kernel_rfl
set_option maxRecDepth 100000 in
theorem lifted (os : Os) (started : os.Started) (H : Type) (enc : TypeId × Value → H) :
    ReturnsInHanded {} Try.checked os 3 .any (Rows.fnLogsSpec.pre6 enc Try.prog Try.f3 Rows.fnLogsRow.domain false) (Rows.fnLogsSpec.post enc Try.prog Try.f3 false true false false) := by
  refine returnsInHanded_of_change_sized (C := Try.checked) own started (by kernel_rfl) Try.func3
    (ChangeSpec.witness6 (enc := enc) (C := Try.checked) false ⟨#[], #[.slice none 0 0], []⟩ 8 (by kernel_rfl) (by kernel_rfl) (by kernel_rfl) (by kernel_rfl)) ?_
  intro W base args ds gs before hval0 hW hcnd hsz0 _
  have hval : ∀ (j : Nat) t v, Try.f3.params[j]? = some t → args[j]? = some v → Value.okWide Try.prog W .any base t v := hval0
  have hW' := hW
  obtain ⟨p, q, hA0, hV, rfl, hfz, hnd⟩ := hW
  have hA : DataW.TrodAll enc Try.prog W 0 (fun _ => true) true Try.f3.params.toList args.toList ds p := hA0
  rw [Try.params3] at hA hval
  obtain ⟨v0, vs0, d0, ds0, p0, q0, hargs, rfl, rfl, h0, r0⟩ := trodAll_cons hA
  obtain ⟨rfl, rfl, rfl⟩ := trodAll_nil r0
  obtain rfl : args = #[v0] := by cases args; simp_all
  obtain ⟨rfl, rfl⟩ := trodVars_none hV
  have k0 := h0
  have lt0 : ∀ x ∈ p0, x.block < W.heap.size := by obtain ⟨m, hm⟩ := k0; exact DataW.trod_lt m _ _ _ hm
  obtain ⟨l0, A0, c0, rfl, hc0, hr0, hm0, ho0⟩ := arg_slice Try.underlying22 (Opn.int Try.underlying5 (by kernel_rfl)) (hval 0 22 v0 rfl rfl) h0
  clear hA0 hval0 hsz0
  obtain ⟨k_, hk_⟩ := Pure.FnLogs l0 hm0 ho0
  show Calls Try.prog 3 #[.slice A0 l0.length c0] W _
  refine (laws_FnLogs.calls k_ A0 c0 l0 true W hr0 hc0 hk_).mono fun e W' ⟨he, bel0⟩ => ?_
  have bel : Below W.heap.size W W' := bel0
  subst he
  exact ⟨_, rfl, _, _, _, [], _, [], hW', trodAll_mk1 (shut_bool Try.underlying4 _), (trodAll_cons_mk (Below.trod laidOut (by kernel_rfl) (of_decide_eq_true (by kernel_rfl)) k0 bel lt0) trodAll_mk0), rfl, bel.frame _, fun h => by cases h⟩
theorem reach1 : Try.prog.inPlace 3 = Rows.fnLogsRow.inPlace := by kernel_rfl
theorem reach2 : Try.prog.unfollowed 3 = Rows.fnLogsRow.unfollowed := by kernel_rfl
theorem reach3 : Try.prog.recurses 3 = Rows.fnLogsRow.recurses := by kernel_rfl
theorem reach4 : Try.prog.varsNamed 3 = Rows.fnLogsRow.named := by kernel_rfl
theorem closed : joinedFacts Try.prog 3 Try.f3 Rows.fnLogsSpec Rows.fnLogsRow = true := by
  unfold joinedFacts
  rw [XP.may, show Try.prog.liftsFinal = Rows.fnLogsRow.lifted from XP.lifts, show Try.prog.make = some Rows.fnLogsRow.make from XP.makes, reach1, reach2, reach3, reach4]
  kernel_rfl
theorem wraps : Try.f3.isWrapper Try.prog Rows.fnLogsRow.wrapper Rows.fnLogsRow.mainSum := by
  unfold Func.isWrapper
  first | (rw [if_pos (by decide +kernel)]; kernel_rfl) | (rw [if_neg (by decide +kernel)]; exact ⟨rfl, rfl⟩)
theorem over : Rows.fnLogsRow.holds Try.pinned (OpenSpec.ofChange Rows.fnLogsSpec) :=
  OpenClaim.holds_of_wide 3 Try.f3 rfl rfl rfl rfl rfl rfl rfl ⟨rfl, rfl, rfl, rfl, rfl⟩ rfl rfl rfl rfl rfl (by kernel_rfl) Try.func3 closed (of_decide_eq_true (by kernel_rfl)) wraps
    (fun os started H enc _ => lifted os started H enc)
theorem proved : Rows.FnLogsSaid := over
#print axioms proved
end Go.Proofs.Yteakcfnhigaffaa.fnLogs
namespace Go.Proofs.Yteakcfnhigaffaa
/-- The row, under a short name, for the claim. -/
theorem fnLogs_holds : Rows.FnLogsSaid := fnLogs.proved
end Go.Proofs.Yteakcfnhigaffaa
