/- The law FnExactIsCases answers true for every input and leaves its arguments as they were; there is no condition. (The row: written by a program of this session, wip/gen/xp.py; what is proved of numbers and lists stands in YtcgbmfcnjgmnjaaPureFnExactIsCases.) -/
import Derived.Test.YtcgbmfcnjgmnjaaRows
import Derived.Test.YtcgbmfcnjgmnjaaXP
import Derived.Test.YtcgbmfcnjgmnjaaXO
import Derived.Test.YtcgbmfcnjgmnjaaXf14
import Derived.Test.YtcgbmfcnjgmnjaaPureFnExactIsCases
import Derived.WalkKit
import Derived.ProofKit
import Derived.OpenShut
import Derived.ShutString
import Derived.ChangeOld
import Derived.Below
import Derived.SizedLaws
namespace Go.Proofs.Ytcgbmfcnjgmnjaa.fnExactIsCases
open Go.ChangeShapes Go.WideShapes Go.ChangeAt Go.RowKit Go.Proofs.Ytcgbmfcnjgmnjaa.X Go.Proofs.Ytcgbmfcnjgmnjaa.XRow
open Go.ChangeMaps (open_string shut_string)
set_option linter.unusedVariables false
theorem own : ownKnob Try.prog.godebug = none := by kernel_rfl
theorem laidOut : laidOutB Try.prog = true := by kernel_rfl
set_option maxRecDepth 100000 in
theorem lifted (os : Os) (started : os.Started) (H : Type) (enc : TypeId × Value → H) :
    ReturnsInHanded {} Try.checked os 14 .any (Rows.fnExactIsCasesSpec.pre6 enc Try.prog Try.f14 Rows.fnExactIsCasesRow.domain false) (Rows.fnExactIsCasesSpec.post enc Try.prog Try.f14 false true false false) := by
  refine returnsInHanded_of_change_sized (C := Try.checked) own started (by kernel_rfl) Try.func14
    (ChangeSpec.witness6 (enc := enc) (C := Try.checked) false ⟨#[], #[.slice none 0 0, .int .i64 0, .int .i64 0, .slice none 0 0], []⟩ 8 (by kernel_rfl) (by kernel_rfl) (by kernel_rfl) (by kernel_rfl)) ?_
  intro W base args ds gs before hval0 hW hcnd hsz0 _
  have hval : ∀ (j : Nat) t v, Try.f14.params[j]? = some t → args[j]? = some v → Value.okWide Try.prog W .any base t v := hval0
  have hW' := hW
  obtain ⟨p, q, hA0, hV, rfl, hfz, hnd⟩ := hW
  have hA : DataW.TrodAll enc Try.prog W 0 (fun _ => true) true Try.f14.params.toList args.toList ds p := hA0
  rw [Try.params14] at hA hval
  obtain ⟨v0, vs0, d0, ds0, p0, q0, hargs, rfl, rfl, h0, r0⟩ := trodAll_cons hA
  obtain ⟨v1, vs1, d1, ds1, p1, q1, rfl, rfl, rfl, h1, r1⟩ := trodAll_cons r0
  obtain ⟨v2, vs2, d2, ds2, p2, q2, rfl, rfl, rfl, h2, r2⟩ := trodAll_cons r1
  obtain ⟨v3, vs3, d3, ds3, p3, q3, rfl, rfl, rfl, h3, r3⟩ := trodAll_cons r2
  obtain ⟨rfl, rfl, rfl⟩ := trodAll_nil r3
  obtain rfl : args = #[v0, v1, v2, v3] := by cases args; simp_all
  obtain ⟨rfl, rfl⟩ := trodVars_none hV
  have k0 := h0
  have lt0 : ∀ x ∈ p0, x.block < W.heap.size := by obtain ⟨m, hm⟩ := k0; exact DataW.trod_lt m _ _ _ hm
  obtain ⟨l0, A0, c0, rfl, hc0, hr0, hm0, ho0⟩ := arg_slice Try.underlying41 opn148 (hval 0 41 v0 rfl rfl) h0
  obtain ⟨a1, rfl, rfl, rfl, w1⟩ := open_int Try.underlying3 (hval 1 3 v1 rfl rfl) h1
  obtain ⟨a2, rfl, rfl, rfl, w2⟩ := open_int Try.underlying3 (hval 2 3 v2 rfl rfl) h2
  have k3 := h3
  have lt3 : ∀ x ∈ p3, x.block < W.heap.size := by obtain ⟨m, hm⟩ := k3; exact DataW.trod_lt m _ _ _ hm
  obtain ⟨l3, A3, c3, rfl, hc3, hr3, hm3, ho3⟩ := arg_slice Try.underlying54 (Opn.slice Try.underlying25 (by kernel_rfl) (Opn.i64 Try.underlying3 (by kernel_rfl))) (hval 3 54 v3 rfl rfl) h3
  clear hA0 hval0 hsz0
  obtain ⟨k_, hk_⟩ := Pure.FnExactIsCases l0 a1 a2 l3 hm0 ho0 (I64.of_wf w1) (I64.of_wf w2) hm3 ho3
  show Calls Try.prog 14 #[.slice A0 l0.length c0, .int .i64 a1, .int .i64 a2, .slice A3 l3.length c3] W _
  refine (laws_FnExactIsCases.calls k_ A0 c0 l0 a1 a2 A3 c3 l3 true W hr0 hc0 hr3 hc3 hk_).mono fun e W' ⟨he, bel0⟩ => ?_
  have bel : Below W.heap.size W W' := bel0
  subst he
  exact ⟨_, rfl, _, _, _, [], _, [], hW', trodAll_mk1 (shut_bool Try.underlying4 _), (trodAll_cons_mk (Below.trod laidOut (by kernel_rfl) (of_decide_eq_true (by kernel_rfl)) k0 bel lt0) (trodAll_cons_mk (shut_int Try.underlying3 w1) (trodAll_cons_mk (shut_int Try.underlying3 w2) (trodAll_cons_mk (Below.trod laidOut (by kernel_rfl) (of_decide_eq_true (by kernel_rfl)) k3 bel lt3) trodAll_mk0)))), rfl, bel.frame _, fun h => by cases h⟩
theorem reach1 : Try.prog.inPlace 14 = Rows.fnExactIsCasesRow.inPlace := by kernel_rfl
theorem reach2 : Try.prog.unfollowed 14 = Rows.fnExactIsCasesRow.unfollowed := by kernel_rfl
theorem reach3 : Try.prog.recurses 14 = Rows.fnExactIsCasesRow.recurses := by kernel_rfl
theorem reach4 : Try.prog.varsNamed 14 = Rows.fnExactIsCasesRow.named := by kernel_rfl
theorem closed : joinedFacts Try.prog 14 Try.f14 Rows.fnExactIsCasesSpec Rows.fnExactIsCasesRow = true := by
  unfold joinedFacts
  rw [XP.may, show Try.prog.liftsFinal = Rows.fnExactIsCasesRow.lifted from XP.lifts, show Try.prog.make = some Rows.fnExactIsCasesRow.make from XP.makes, reach1, reach2, reach3, reach4]
  kernel_rfl
theorem wraps : Try.f14.isWrapper Try.prog Rows.fnExactIsCasesRow.wrapper Rows.fnExactIsCasesRow.mainSum := by
  unfold Func.isWrapper
  first | (rw [if_pos (by decide +kernel)]; kernel_rfl) | (rw [if_neg (by decide +kernel)]; exact ⟨rfl, rfl⟩)
theorem over : Rows.fnExactIsCasesRow.holds Try.pinned (OpenSpec.ofChange Rows.fnExactIsCasesSpec) :=
  OpenClaim.holds_of_wide 14 Try.f14 rfl rfl rfl rfl rfl rfl rfl ⟨rfl, rfl, rfl, rfl, rfl⟩ rfl rfl rfl rfl rfl (by kernel_rfl) Try.func14 closed (of_decide_eq_true (by kernel_rfl)) wraps
    (fun os started H enc _ => lifted os started H enc)
theorem proved : Rows.FnExactIsCasesSaid := over
#print axioms proved
end Go.Proofs.Ytcgbmfcnjgmnjaa.fnExactIsCases
namespace Go.Proofs.Ytcgbmfcnjgmnjaa
/-- The row, under a short name, for the claim. -/
theorem fnExactIsCases_holds : Rows.FnExactIsCasesSaid := fnExactIsCases.proved
end Go.Proofs.Ytcgbmfcnjgmnjaa
