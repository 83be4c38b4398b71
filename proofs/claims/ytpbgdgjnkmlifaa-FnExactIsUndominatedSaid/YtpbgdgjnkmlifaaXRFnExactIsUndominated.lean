/- The law FnExactIsUndominated answers true for every input and leaves its arguments as they were; there is no condition. (The row: written by a program of this session, wip/gen/xp.py; what is proved of numbers and lists stands in YtpbgdgjnkmlifaaPureFnExactIsUndominated.) -/
import Derived.Test.YtpbgdgjnkmlifaaRows
import Derived.Test.YtpbgdgjnkmlifaaXP
import Derived.Test.YtpbgdgjnkmlifaaXO
import Derived.Test.YtpbgdgjnkmlifaaXf3
import Derived.Test.YtpbgdgjnkmlifaaPureFnExactIsUndominated
import Derived.WalkKit
import Derived.ProofKit
import Derived.OpenShut
import Derived.ShutString
import Derived.ChangeOld
import Derived.Below
import Derived.SizedLaws
namespace Go.Proofs.Ytpbgdgjnkmlifaa.fnExactIsUndominated
open Go.ChangeShapes Go.WideShapes Go.ChangeAt Go.RowKit Go.Proofs.Ytpbgdgjnkmlifaa.X Go.Proofs.Ytpbgdgjnkmlifaa.XRow
open Go.ChangeMaps (open_string shut_string)
set_option linter.unusedVariables false
theorem own : ownKnob Try.prog.godebug = none := by kernel_rfl
theorem laidOut : laidOutB Try.prog = true := by kernel_rfl
set_option maxRecDepth 100000 in
theorem lifted (os : Os) (started : os.Started) (H : Type) (enc : TypeId × Value → H) :
    ReturnsInHanded {} Try.checked os 3 .any (Rows.fnExactIsUndominatedSpec.pre6 enc Try.prog Try.f3 Rows.fnExactIsUndominatedRow.domain false) (Rows.fnExactIsUndominatedSpec.post enc Try.prog Try.f3 false true false false) := by
  refine returnsInHanded_of_change_sized (C := Try.checked) own started (by kernel_rfl) Try.func3
    (ChangeSpec.witness6 (enc := enc) (C := Try.checked) false ⟨#[], #[.slice none 0 0, .slice none 0 0, .int .i64 0, .int .i64 0], []⟩ 8 (by kernel_rfl) (by kernel_rfl) (by kernel_rfl) (by kernel_rfl)) ?_
  intro W base args ds gs before hval0 hW hcnd hsz0 _
  have hval : ∀ (j : Nat) t v, Try.f3.params[j]? = some t → args[j]? = some v → Value.okWide Try.prog W .any base t v := hval0
  have hW' := hW
  obtain ⟨p, q, hA0, hV, rfl, hfz, hnd⟩ := hW
  have hA : DataW.TrodAll enc Try.prog W 0 (fun _ => true) true Try.f3.params.toList args.toList ds p := hA0
  rw [Try.params3] at hA hval
  obtain ⟨v0, vs0, d0, ds0, p0, q0, hargs, rfl, rfl, h0, r0⟩ := trodAll_cons hA
  obtain ⟨v1, vs1, d1, ds1, p1, q1, rfl, rfl, rfl, h1, r1⟩ := trodAll_cons r0
  obtain ⟨v2, vs2, d2, ds2, p2, q2, rfl, rfl, rfl, h2, r2⟩ := trodAll_cons r1
  obtain ⟨v3, vs3, d3, ds3, p3, q3, rfl, rfl, rfl, h3, r3⟩ := trodAll_cons r2
  obtain ⟨rfl, rfl, rfl⟩ := trodAll_nil r3
  obtain rfl : args = #[v0, v1, v2, v3] := by cases args; simp_all
  obtain ⟨rfl, rfl⟩ := trodVars_none hV
  have k0 := h0
  have lt0 : ∀ x ∈ p0, x.block < W.heap.size := by obtain ⟨m, hm⟩ := k0; exact DataW.trod_lt m _ _ _ hm
  obtain ⟨l0, A0, c0, rfl, hc0, hr0, hm0, ho0⟩ := arg_slice Try.underlying22 opn43 (hval 0 22 v0 rfl rfl) h0
  have k1 := h1
  have lt1 : ∀ x ∈ p1, x.block < W.heap.size := by obtain ⟨m, hm⟩ := k1; exact DataW.trod_lt m _ _ _ hm
  obtain ⟨l1, A1, c1, rfl, hc1, hr1, hm1, ho1⟩ := arg_slice Try.underlying23 (Opn.i64 Try.underlying3 (by kernel_rfl)) (hval 1 23 v1 rfl rfl) h1
  obtain ⟨a2, rfl, rfl, rfl, w2⟩ := open_int Try.underlying3 (hval 2 3 v2 rfl rfl) h2
  obtain ⟨a3, rfl, rfl, rfl, w3⟩ := open_int Try.underlying3 (hval 3 3 v3 rfl rfl) h3
  clear hA0 hval0 hsz0
  obtain ⟨k_, hk_⟩ := Pure.FnExactIsUndominated l0 l1 a2 a3 hm0 ho0 hm1 ho1 (I64.of_wf w2) (I64.of_wf w3)
  show Calls Try.prog 3 #[.slice A0 l0.length c0, .slice A1 l1.length c1, .int .i64 a2, .int .i64 a3] W _
  refine (laws_FnExactIsUndominated.calls k_ A0 c0 l0 A1 c1 l1 a2 a3 true W hr0 hc0 hr1 hc1 hk_).mono fun e W' ⟨he, bel0⟩ => ?_
  have bel : Below W.heap.size W W' := bel0
  subst he
  exact ⟨_, rfl, _, _, _, [], _, [], hW', trodAll_mk1 (shut_bool Try.underlying4 _), (trodAll_cons_mk (Below.trod laidOut (by kernel_rfl) (of_decide_eq_true (by kernel_rfl)) k0 bel lt0) (trodAll_cons_mk (Below.trod laidOut (by kernel_rfl) (of_decide_eq_true (by kernel_rfl)) k1 bel lt1) (trodAll_cons_mk (shut_int Try.underlying3 w2) (trodAll_cons_mk (shut_int Try.underlying3 w3) trodAll_mk0)))), rfl, bel.frame _, fun h => by cases h⟩
theorem reach1 : Try.prog.inPlace 3 = Rows.fnExactIsUndominatedRow.inPlace := by kernel_rfl
theorem reach2 : Try.prog.unfollowed 3 = Rows.fnExactIsUndominatedRow.unfollowed := by kernel_rfl
theorem reach3 : Try.prog.recurses 3 = Rows.fnExactIsUndominatedRow.recurses := by kernel_rfl
theorem reach4 : Try.prog.varsNamed 3 = Rows.fnExactIsUndominatedRow.named := by kernel_rfl
theorem closed : joinedFacts Try.prog 3 Try.f3 Rows.fnExactIsUndominatedSpec Rows.fnExactIsUndominatedRow = true := by
  unfold joinedFacts
  rw [XP.may, show Try.prog.liftsFinal = Rows.fnExactIsUndominatedRow.lifted from XP.lifts, show Try.prog.make = some Rows.fnExactIsUndominatedRow.make from XP.makes, reach1, reach2, reach3, reach4]
  kernel_rfl
theorem wraps : Try.f3.isWrapper Try.prog Rows.fnExactIsUndominatedRow.wrapper Rows.fnExactIsUndominatedRow.mainSum := by
  unfold Func.isWrapper
  first | (rw [if_pos (by decide +kernel)]; kernel_rfl) | (rw [if_neg (by decide +kernel)]; exact ⟨rfl, rfl⟩)
theorem over : Rows.fnExactIsUndominatedRow.holds Try.pinned (OpenSpec.ofChange Rows.fnExactIsUndominatedSpec) :=
  OpenClaim.holds_of_wide 3 Try.f3 rfl rfl rfl rfl rfl rfl rfl ⟨rfl, rfl, rfl, rfl, rfl⟩ rfl rfl rfl rfl rfl (by kernel_rfl) Try.func3 closed (of_decide_eq_true (by kernel_rfl)) wraps
    (fun os started H enc _ => lifted os started H enc)
theorem proved : Rows.FnExactIsUndominatedSaid := over
#print axioms proved
end Go.Proofs.Ytpbgdgjnkmlifaa.fnExactIsUndominated
namespace Go.Proofs.Ytpbgdgjnkmlifaa
/-- The row, under a short name, for the claim. -/
theorem fnExactIsUndominated_holds : Rows.FnExactIsUndominatedSaid := fnExactIsUndominated.proved
end Go.Proofs.Ytpbgdgjnkmlifaa
