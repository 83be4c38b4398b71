/- The law FnExactIsBlockOrder answers true for every input and leaves its arguments as they were; there is no condition. (The row: written by a program of this session, wip/gen/xp.py; what is proved of numbers and lists stands in YtlnimgebhpfdjaaPureFnExactIsBlockOrder.) -/
import Derived.Test.YtlnimgebhpfdjaaRows
import Derived.Test.YtlnimgebhpfdjaaXP
import Derived.Test.YtlnimgebhpfdjaaXO
import Derived.Test.YtlnimgebhpfdjaaXf3
import Derived.Test.YtlnimgebhpfdjaaPureFnExactIsBlockOrder
import Derived.WalkKit
import Derived.ProofKit
import Derived.OpenShut
import Derived.ShutString
import Derived.ChangeOld
import Derived.Below
import Derived.SizedLaws
namespace Go.Proofs.Ytlnimgebhpfdjaa.fnExactIsBlockOrder
open Go.ChangeShapes Go.WideShapes Go.ChangeAt Go.RowKit Go.Proofs.Ytlnimgebhpfdjaa.X Go.Proofs.Ytlnimgebhpfdjaa.XRow
open Go.ChangeMaps (open_string shut_string)
set_option linter.unusedVariables false
theorem own : ownKnob Try.prog.godebug = none := by kernel_rfl
theorem laidOut : laidOutB Try.prog = true := by kernel_rfl
set_option maxRecDepth 100000 in
theorem lifted (os : Os) (started : os.Started) (H : Type) (enc : TypeId × Value → H) :
    ReturnsInHanded {} Try.checked os 3 .any (Rows.fnExactIsBlockOrderSpec.pre6 enc Try.prog Try.f3 Rows.fnExactIsBlockOrderRow.domain false) (Rows.fnExactIsBlockOrderSpec.post enc Try.prog Try.f3 false true false false) := by
  refine returnsInHanded_of_change_sized (C := Try.checked) own started (by kernel_rfl) Try.func3
    (ChangeSpec.witness6 (enc := enc) (C := Try.checked) false ⟨#[], #[.slice none 0 0, .slice none 0 0, .slice none 0 0], []⟩ 8 (by kernel_rfl) (by kernel_rfl) (by kernel_rfl) (by kernel_rfl)) ?_
  intro W base args ds gs before hval0 hW hcnd hsz0 _
  have hval : ∀ (j : Nat) t v, Try.f3.params[j]? = some t → args[j]? = some v → Value.okWide Try.prog W .any base t v := hval0
  have hW' := hW
  obtain ⟨p, q, hA0, hV, rfl, hfz, hnd⟩ := hW
  have hA : DataW.TrodAll enc Try.prog W 0 (fun _ => true) true Try.f3.params.toList args.toList ds p := hA0
  rw [Try.params3] at hA hval
  obtain ⟨v0, vs0, d0, ds0, p0, q0, hargs, rfl, rfl, h0, r0⟩ := trodAll_cons hA
  obtain ⟨v1, vs1, d1, ds1, p1, q1, rfl, rfl, rfl, h1, r1⟩ := trodAll_cons r0
  obtain ⟨v2, vs2, d2, ds2, p2, q2, rfl, rfl, rfl, h2, r2⟩ := trodAll_cons r1
  obtain ⟨rfl, rfl, rfl⟩ := trodAll_nil r2
  obtain rfl : args = #[v0, v1, v2] := by cases args; simp_all
  obtain ⟨rfl, rfl⟩ := trodVars_none hV
  have k0 := h0
  have lt0 : ∀ x ∈ p0, x.block < W.heap.size := by obtain ⟨m, hm⟩ := k0; exact DataW.trod_lt m _ _ _ hm
  obtain ⟨l0, A0, c0, rfl, hc0, hr0, hm0, ho0⟩ := arg_slice Try.underlying22 opn46 (hval 0 22 v0 rfl rfl) h0
  have k1 := h1
  have lt1 : ∀ x ∈ p1, x.block < W.heap.size := by obtain ⟨m, hm⟩ := k1; exact DataW.trod_lt m _ _ _ hm
  obtain ⟨l1, A1, c1, rfl, hc1, hr1, hm1, ho1⟩ := arg_slice Try.underlying23 opn47 (hval 1 23 v1 rfl rfl) h1
  have k2 := h2
  have lt2 : ∀ x ∈ p2, x.block < W.heap.size := by obtain ⟨m, hm⟩ := k2; exact DataW.trod_lt m _ _ _ hm
  obtain ⟨l2, A2, c2, rfl, hc2, hr2, hm2, ho2⟩ := arg_slice Try.underlying24 (Opn.i64 Try.underlying3 (by kernel_rfl)) (hval 2 24 v2 rfl rfl) h2
  clear hA0 hval0 hsz0
  obtain ⟨k_, hk_⟩ := Pure.FnExactIsBlockOrder l0 l1 l2 hm0 ho0 hm1 ho1 hm2 ho2
  show Calls Try.prog 3 #[.slice A0 l0.length c0, .slice A1 l1.length c1, .slice A2 l2.length c2] W _
  refine (laws_FnExactIsBlockOrder.calls k_ A0 c0 l0 A1 c1 l1 A2 c2 l2 true W hr0 hc0 hr1 hc1 hr2 hc2 hk_).mono fun e W' ⟨he, bel0⟩ => ?_
  have bel : Below W.heap.size W W' := bel0
  subst he
  exact ⟨_, rfl, _, _, _, [], _, [], hW', trodAll_mk1 (shut_bool Try.underlying4 _), (trodAll_cons_mk (Below.trod laidOut (by kernel_rfl) (of_decide_eq_true (by kernel_rfl)) k0 bel lt0) (trodAll_cons_mk (Below.trod laidOut (by kernel_rfl) (of_decide_eq_true (by kernel_rfl)) k1 bel lt1) (trodAll_cons_mk (Below.trod laidOut (by kernel_rfl) (of_decide_eq_true (by kernel_rfl)) k2 bel lt2) trodAll_mk0))), rfl, bel.frame _, fun h => by cases h⟩
theorem reach1 : Try.prog.inPlace 3 = Rows.fnExactIsBlockOrderRow.inPlace := by kernel_rfl
theorem reach2 : Try.prog.unfollowed 3 = Rows.fnExactIsBlockOrderRow.unfollowed := by kernel_rfl
theorem reach3 : Try.prog.recurses 3 = Rows.fnExactIsBlockOrderRow.recurses := by kernel_rfl
theorem reach4 : Try.prog.varsNamed 3 = Rows.fnExactIsBlockOrderRow.named := by kernel_rfl
theorem closed : joinedFacts Try.prog 3 Try.f3 Rows.fnExactIsBlockOrderSpec Rows.fnExactIsBlockOrderRow = true := by
  unfold joinedFacts
  rw [XP.may, show Try.prog.liftsFinal = Rows.fnExactIsBlockOrderRow.lifted from XP.lifts, show Try.prog.make = some Rows.fnExactIsBlockOrderRow.make from XP.makes, reach1, reach2, reach3, reach4]
  kernel_rfl
theorem wraps : Try.f3.isWrapper Try.prog Rows.fnExactIsBlockOrderRow.wrapper Rows.fnExactIsBlockOrderRow.mainSum := by
  unfold Func.isWrapper
  first | (rw [if_pos (by decide +kernel)]; kernel_rfl) | (rw [if_neg (by decide +kernel)]; exact ⟨rfl, rfl⟩)
theorem over : Rows.fnExactIsBlockOrderRow.holds Try.pinned (OpenSpec.ofChange Rows.fnExactIsBlockOrderSpec) :=
  OpenClaim.holds_of_wide 3 Try.f3 rfl rfl rfl rfl rfl rfl rfl ⟨rfl, rfl, rfl, rfl, rfl⟩ rfl rfl rfl rfl rfl (by kernel_rfl) Try.func3 closed (of_decide_eq_true (by kernel_rfl)) wraps
    (fun os started H enc _ => lifted os started H enc)
theorem proved : Rows.FnExactIsBlockOrderSaid := over
#print axioms proved
end Go.Proofs.Ytlnimgebhpfdjaa.fnExactIsBlockOrder
namespace Go.Proofs.Ytlnimgebhpfdjaa
/-- The row, under a short name, for the claim. -/
theorem fnExactIsBlockOrder_holds : Rows.FnExactIsBlockOrderSaid := fnExactIsBlockOrder.proved
end Go.Proofs.Ytlnimgebhpfdjaa
