/- The law FnExactOpsOn answers true for every input and leaves its arguments as they were; there is no condition. (The row: written by a program of this session, wip/gen/xp.py; what is proved of numbers and lists stands in YtgpnophjbibhhaaPureFnExactOpsOn.) -/
import Derived.Test.YtgpnophjbibhhaaRows
import Derived.Test.YtgpnophjbibhhaaXP
import Derived.Test.YtgpnophjbibhhaaXO
import Derived.Test.YtgpnophjbibhhaaXf7
import Derived.Test.YtgpnophjbibhhaaPureFnExactOpsOn
import Derived.WalkKit
import Derived.ProofKit
import Derived.OpenShut
import Derived.ShutString
import Derived.ChangeOld
import Derived.Below
import Derived.SizedLaws
namespace Go.Proofs.Ytgpnophjbibhhaa.fnExactOpsOn
open Go.ChangeShapes Go.WideShapes Go.ChangeAt Go.RowKit Go.Proofs.Ytgpnophjbibhhaa.X Go.Proofs.Ytgpnophjbibhhaa.XRow
open Go.ChangeMaps (open_string shut_string)
set_option linter.unusedVariables false
theorem own : ownKnob Try.prog.godebug = none := by kernel_rfl
theorem laidOut : laidOutB Try.prog = true := by kernel_rfl
set_option maxRecDepth 100000 in
theorem lifted (os : Os) (started : os.Started) (H : Type) (enc : TypeId × Value → H) :
    ReturnsInHanded {} Try.checked os 7 .any (Rows.fnExactOpsOnSpec.pre6 enc Try.prog Try.f7 Rows.fnExactOpsOnRow.domain false) (Rows.fnExactOpsOnSpec.post enc Try.prog Try.f7 false true false false) := by
  refine returnsInHanded_of_change_sized (C := Try.checked) own started (by kernel_rfl) Try.func7
    (ChangeSpec.witness6 (enc := enc) (C := Try.checked) false ⟨#[], #[.agg #[.int .i64 0, .slice none 0 0], .int .i64 0], []⟩ 8 (by kernel_rfl) (by kernel_rfl) (by kernel_rfl) (by kernel_rfl)) ?_
  intro W base args ds gs before hval0 hW hcnd hsz0 _
  have hval : ∀ (j : Nat) t v, Try.f7.params[j]? = some t → args[j]? = some v → Value.okWide Try.prog W .any base t v := hval0
  have hW' := hW
  obtain ⟨p, q, hA0, hV, rfl, hfz, hnd⟩ := hW
  have hA : DataW.TrodAll enc Try.prog W 0 (fun _ => true) true Try.f7.params.toList args.toList ds p := hA0
  rw [Try.params7] at hA hval
  obtain ⟨v0, vs0, d0, ds0, p0, q0, hargs, rfl, rfl, h0, r0⟩ := trodAll_cons hA
  obtain ⟨v1, vs1, d1, ds1, p1, q1, rfl, rfl, rfl, h1, r1⟩ := trodAll_cons r0
  obtain ⟨rfl, rfl, rfl⟩ := trodAll_nil r1
  obtain rfl : args = #[v0, v1] := by cases args; simp_all
  obtain ⟨rfl, rfl⟩ := trodVars_none hV
  have k0 := h0
  have lt0 : ∀ x ∈ p0, x.block < W.heap.size := by obtain ⟨m, hm⟩ := k0; exact DataW.trod_lt m _ _ _ hm
  obtain ⟨y0, cs0, rfl, hk0, ho0⟩ := arg_agg Try.underlying44 ch44 (hval 0 44 v0 rfl rfl) h0
  obtain ⟨_, _, rfl, rfl, ⟨A0_1, c0_1, rfl, hc0_1, hr0_1⟩⟩ := hk0
  obtain ⟨a1, rfl, rfl, rfl, w1⟩ := open_int Try.underlying3 (hval 1 3 v1 rfl rfl) h1
  clear hA0 hval0 hsz0
  obtain ⟨k_, hk_⟩ := Pure.FnExactOpsOn (y0.1) (y0.2) a1 ho0.1 ho0.2 (I64.of_wf w1)
  show Calls Try.prog 7 #[.agg #[.int .i64 (y0.1), .slice A0_1 (y0.2).length c0_1], .int .i64 a1] W _
  refine (laws_FnExactOpsOn.calls k_ (y0.1) A0_1 c0_1 (y0.2) a1 true W hr0_1 hc0_1 hk_).mono fun e W' ⟨he, bel0⟩ => ?_
  have bel : Below W.heap.size W W' := bel0
  subst he
  exact ⟨_, rfl, _, _, _, [], _, [], hW', trodAll_mk1 (shut_bool Try.underlying4 _), (trodAll_cons_mk (Below.trod laidOut (by kernel_rfl) (of_decide_eq_true (by kernel_rfl)) k0 bel lt0) (trodAll_cons_mk (shut_int Try.underlying3 w1) trodAll_mk0)), rfl, bel.frame _, fun h => by cases h⟩
theorem reach1 : Try.prog.inPlace 7 = Rows.fnExactOpsOnRow.inPlace := by kernel_rfl
theorem reach2 : Try.prog.unfollowed 7 = Rows.fnExactOpsOnRow.unfollowed := by kernel_rfl
theorem reach3 : Try.prog.recurses 7 = Rows.fnExactOpsOnRow.recurses := by kernel_rfl
theorem reach4 : Try.prog.varsNamed 7 = Rows.fnExactOpsOnRow.named := by kernel_rfl
theorem closed : joinedFacts Try.prog 7 Try.f7 Rows.fnExactOpsOnSpec Rows.fnExactOpsOnRow = true := by
  unfold joinedFacts
  rw [XP.may, show Try.prog.liftsFinal = Rows.fnExactOpsOnRow.lifted from XP.lifts, show Try.prog.make = some Rows.fnExactOpsOnRow.make from XP.makes, reach1, reach2, reach3, reach4]
  kernel_rfl
theorem wraps : Try.f7.isWrapper Try.prog Rows.fnExactOpsOnRow.wrapper Rows.fnExactOpsOnRow.mainSum := by
  unfold Func.isWrapper
  first | (rw [if_pos (by decide +kernel)]; kernel_rfl) | (rw [if_neg (by decide +kernel)]; exact ⟨rfl, rfl⟩)
theorem over : Rows.fnExactOpsOnRow.holds Try.pinned (OpenSpec.ofChange Rows.fnExactOpsOnSpec) :=
  OpenClaim.holds_of_wide 7 Try.f7 rfl rfl rfl rfl rfl rfl rfl ⟨rfl, rfl, rfl, rfl, rfl⟩ rfl rfl rfl rfl rfl (by kernel_rfl) Try.func7 closed (of_decide_eq_true (by kernel_rfl)) wraps
    (fun os started H enc _ => lifted os started H enc)
theorem proved : Rows.FnExactOpsOnSaid := over
#print axioms proved
end Go.Proofs.Ytgpnophjbibhhaa.fnExactOpsOn
namespace Go.Proofs.Ytgpnophjbibhhaa
/-- The row, under a short name, for the claim. -/
theorem fnExactOpsOn_holds : Rows.FnExactOpsOnSaid := fnExactOpsOn.proved
end Go.Proofs.Ytgpnophjbibhhaa
