/- The law FnExactLongerWithout answers true for every input and leaves its arguments as they were; there is no condition. (The row: written by a program of this session, wip/gen/xp.py; what is proved of numbers and lists stands in YteifefecoaefnaaPureFnExactLongerWithout.) -/
import Derived.Test.YteifefecoaefnaaRows
import Derived.Test.YteifefecoaefnaaXP
import Derived.Test.YteifefecoaefnaaXO
import Derived.Test.YteifefecoaefnaaXf4
import Derived.Test.YteifefecoaefnaaPureFnExactLongerWithout
import Derived.WalkKit
import Derived.ProofKit
import Derived.OpenShut
import Derived.ShutString
import Derived.ChangeOld
import Derived.Below
import Derived.SizedLaws
namespace Go.Proofs.Yteifefecoaefnaa.fnExactLongerWithout
open Go.ChangeShapes Go.WideShapes Go.ChangeAt Go.RowKit Go.Proofs.Yteifefecoaefnaa.X Go.Proofs.Yteifefecoaefnaa.XRow
open Go.ChangeMaps (open_string shut_string)
set_option linter.unusedVariables false
theorem own : ownKnob Try.prog.godebug = none := by kernel_rfl
theorem laidOut : laidOutB Try.prog = true := by kernel_rfl
set_option maxRecDepth 100000 in
theorem lifted (os : Os) (started : os.Started) (H : Type) (enc : TypeId × Value → H) :
    ReturnsInHanded {} Try.checked os 4 .any (Rows.fnExactLongerWithoutSpec.pre6 enc Try.prog Try.f4 Rows.fnExactLongerWithoutRow.domain false) (Rows.fnExactLongerWithoutSpec.post enc Try.prog Try.f4 false true false false) := by
  refine returnsInHanded_of_change_sized (C := Try.checked) own started (by kernel_rfl) Try.func4
    (ChangeSpec.witness6 (enc := enc) (C := Try.checked) false ⟨#[], #[.slice none 0 0, .int .i64 0, .slice none 0 0, .slice none 0 0], []⟩ 8 (by kernel_rfl) (by kernel_rfl) (by kernel_rfl) (by kernel_rfl)) ?_
  intro W base args ds gs before hval0 hW hcnd hsz0 _
  have hval : ∀ (j : Nat) t v, Try.f4.params[j]? = some t → args[j]? = some v → Value.okWide Try.prog W .any base t v := hval0
  have hW' := hW
  obtain ⟨p, q, hA0, hV, rfl, hfz, hnd⟩ := hW
  have hA : DataW.TrodAll enc Try.prog W 0 (fun _ => true) true Try.f4.params.toList args.toList ds p := hA0
  rw [Try.params4] at hA hval
  obtain ⟨v0, vs0, d0, ds0, p0, q0, hargs, rfl, rfl, h0, r0⟩ := trodAll_cons hA
  obtain ⟨v1, vs1, d1, ds1, p1, q1, rfl, rfl, rfl, h1, r1⟩ := trodAll_cons r0
  obtain ⟨v2, vs2, d2, ds2, p2, q2, rfl, rfl, rfl, h2, r2⟩ := trodAll_cons r1
  obtain ⟨v3, vs3, d3, ds3, p3, q3, rfl, rfl, rfl, h3, r3⟩ := trodAll_cons r2
  obtain ⟨rfl, rfl, rfl⟩ := trodAll_nil r3
  obtain rfl : args = #[v0, v1, v2, v3] := by cases args; simp_all
  obtain ⟨rfl, rfl⟩ := trodVars_none hV
  have k0 := h0
  have lt0 : ∀ x ∈ p0, x.block < W.heap.size := by obtain ⟨m, hm⟩ := k0; exact DataW.trod_lt m _ _ _ hm
  obtain ⟨l0, A0, c0, rfl, hc0, hr0, hm0, ho0⟩ := arg_slice Try.underlying22 opn48 (hval 0 22 v0 rfl rfl) h0
  obtain ⟨a1, rfl, rfl, rfl, w1⟩ := open_int Try.underlying3 (hval 1 3 v1 rfl rfl) h1
  have k2 := h2
  have lt2 : ∀ x ∈ p2, x.block < W.heap.size := by obtain ⟨m, hm⟩ := k2; exact DataW.trod_lt m _ _ _ hm
  obtain ⟨l2, A2, c2, rfl, hc2, hr2, hm2, ho2⟩ := arg_slice Try.underlying23 opn37 (hval 2 23 v2 rfl rfl) h2
  have k3 := h3
  have lt3 : ∀ x ∈ p3, x.block < W.heap.size := by obtain ⟨m, hm⟩ := k3; exact DataW.trod_lt m _ _ _ hm
  obtain ⟨l3, A3, c3, rfl, hc3, hr3, hm3, ho3⟩ := arg_slice Try.underlying24 (Opn.i64 Try.underlying3 (by kernel_rfl)) (hval 3 24 v3 rfl rfl) h3
  clear hA0 hval0 hsz0
  obtain ⟨k_, hk_⟩ := Pure.FnExactLongerWithout l0 a1 l2 l3 hm0 ho0 (I64.of_wf w1) hm2 ho2 hm3 ho3
  show Calls Try.prog 4 #[.slice A0 l0.length c0, .int .i64 a1, .slice A2 l2.length c2, .slice A3 l3.length c3] W _
  refine (laws_FnExactLongerWithout.calls k_ A0 c0 l0 a1 A2 c2 l2 A3 c3 l3 true W hr0 hc0 hr2 hc2 hr3 hc3 hk_).mono fun e W' ⟨he, bel0⟩ => ?_
  have bel : Below W.heap.size W W' := bel0
  subst he
  exact ⟨_, rfl, _, _, _, [], _, [], hW', trodAll_mk1 (shut_bool Try.underlying4 _), (trodAll_cons_mk (Below.trod laidOut (by kernel_rfl) (of_decide_eq_true (by kernel_rfl)) k0 bel lt0) (trodAll_cons_mk (shut_int Try.underlying3 w1) (trodAll_cons_mk (Below.trod laidOut (by kernel_rfl) (of_decide_eq_true (by kernel_rfl)) k2 bel lt2) (trodAll_cons_mk (Below.trod laidOut (by kernel_rfl) (of_decide_eq_true (by kernel_rfl)) k3 bel lt3) trodAll_mk0)))), rfl, bel.frame _, fun h => by cases h⟩
theorem reach1 : Try.prog.inPlace 4 = Rows.fnExactLongerWithoutRow.inPlace := by kernel_rfl
theorem reach2 : Try.prog.unfollowed 4 = Rows.fnExactLongerWithoutRow.unfollowed := by kernel_rfl
theorem reach3 : Try.prog.recurses 4 = Rows.fnExactLongerWithoutRow.recurses := by kernel_rfl
theorem reach4 : Try.prog.varsNamed 4 = Rows.fnExactLongerWithoutRow.named := by kernel_rfl
theorem closed : joinedFacts Try.prog 4 Try.f4 Rows.fnExactLongerWithoutSpec Rows.fnExactLongerWithoutRow = true := by
  unfold joinedFacts
  rw [XP.may, show Try.prog.liftsFinal = Rows.fnExactLongerWithoutRow.lifted from XP.lifts, show Try.prog.make = some Rows.fnExactLongerWithoutRow.make from XP.makes, reach1, reach2, reach3, reach4]
  kernel_rfl
theorem wraps : Try.f4.isWrapper Try.prog Rows.fnExactLongerWithoutRow.wrapper Rows.fnExactLongerWithoutRow.mainSum := by
  unfold Func.isWrapper
  first | (rw [if_pos (by decide +kernel)]; kernel_rfl) | (rw [if_neg (by decide +kernel)]; exact ⟨rfl, rfl⟩)
theorem over : Rows.fnExactLongerWithoutRow.holds Try.pinned (OpenSpec.ofChange Rows.fnExactLongerWithoutSpec) :=
  OpenClaim.holds_of_wide 4 Try.f4 rfl rfl rfl rfl rfl rfl rfl ⟨rfl, rfl, rfl, rfl, rfl⟩ rfl rfl rfl rfl rfl (by kernel_rfl) Try.func4 closed (of_decide_eq_true (by kernel_rfl)) wraps
    (fun os started H enc _ => lifted os started H enc)
theorem proved : Rows.FnExactLongerWithoutSaid := over
#print axioms proved
end Go.Proofs.Yteifefecoaefnaa.fnExactLongerWithout
namespace Go.Proofs.Yteifefecoaefnaa
/-- The row, under a short name, for the claim. -/
theorem fnExactLongerWithout_holds : Rows.FnExactLongerWithoutSaid := fnExactLongerWithout.proved
end Go.Proofs.Yteifefecoaefnaa
