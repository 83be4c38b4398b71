/- The law FnExactIsValidConsole answers true for every input and leaves its arguments as they were; there is no condition. (The row: written by a program of this session, wip/gen/xp.py; what is proved of numbers and lists stands in YtafdeppeacmpdaaPureFnExactIsValidConsole.) -/
import Derived.Test.YtafdeppeacmpdaaRows
import Derived.Test.YtafdeppeacmpdaaXP
import Derived.Test.YtafdeppeacmpdaaXO
import Derived.Test.YtafdeppeacmpdaaXf13
import Derived.Test.YtafdeppeacmpdaaPureFnExactIsValidConsole
import Derived.WalkKit
import Derived.ProofKit
import Derived.OpenShut
import Derived.ShutString
import Derived.ChangeOld
import Derived.Below
import Derived.SizedLaws
namespace Go.Proofs.Ytafdeppeacmpdaa.fnExactIsValidConsole
open Go.ChangeShapes Go.WideShapes Go.ChangeAt Go.RowKit Go.Proofs.Ytafdeppeacmpdaa.X Go.Proofs.Ytafdeppeacmpdaa.XRow
open Go.ChangeMaps (open_string shut_string)
set_option linter.unusedVariables false
theorem own : ownKnob Try.prog.godebug = none := by kernel_rfl
theorem laidOut : laidOutB Try.prog = true := by kernel_rfl
set_option maxRecDepth 100000 in
theorem lifted (os : Os) (started : os.Started) (H : Type) (enc : TypeId × Value → H) :
    ReturnsInHanded {} Try.checked os 13 .any (Rows.fnExactIsValidConsoleSpec.pre6 enc Try.prog Try.f13 Rows.fnExactIsValidConsoleRow.domain false) (Rows.fnExactIsValidConsoleSpec.post enc Try.prog Try.f13 false true false false) := by
  refine returnsInHanded_of_change_sized (C := Try.checked) own started (by kernel_rfl) Try.func13
    (ChangeSpec.witness6 (enc := enc) (C := Try.checked) false ⟨#[], #[.agg #[.int .i64 0, .int .i64 0, .int .i64 0, .slice none 0 0, .slice none 0 0, .string ByteArray.empty, .string ByteArray.empty, .int .i64 0]], []⟩ 8 (by kernel_rfl) (by kernel_rfl) (by kernel_rfl) (by kernel_rfl)) ?_
  intro W base args ds gs before hval0 hW hcnd hsz0 _
  have hval : ∀ (j : Nat) t v, Try.f13.params[j]? = some t → args[j]? = some v → Value.okWide Try.prog W .any base t v := hval0
  have hW' := hW
  obtain ⟨p, q, hA0, hV, rfl, hfz, hnd⟩ := hW
  have hA : DataW.TrodAll enc Try.prog W 0 (fun _ => true) true Try.f13.params.toList args.toList ds p := hA0
  rw [Try.params13] at hA hval
  obtain ⟨v0, vs0, d0, ds0, p0, q0, hargs, rfl, rfl, h0, r0⟩ := trodAll_cons hA
  obtain ⟨rfl, rfl, rfl⟩ := trodAll_nil r0
  obtain rfl : args = #[v0] := by cases args; simp_all
  obtain ⟨rfl, rfl⟩ := trodVars_none hV
  have k0 := h0
  have lt0 : ∀ x ∈ p0, x.block < W.heap.size := by obtain ⟨m, hm⟩ := k0; exact DataW.trod_lt m _ _ _ hm
  obtain ⟨y0, cs0, rfl, hk0, ho0⟩ := arg_agg Try.underlying78 ch78 (hval 0 78 v0 rfl rfl) h0
  obtain ⟨_, _, rfl, ⟨_, _, rfl, rfl, ⟨_, _, rfl, rfl, ⟨_, _, rfl, rfl, ⟨_, _, rfl, ⟨A0_3, c0_3, rfl, hc0_3, hr0_3⟩, ⟨A0_4, c0_4, rfl, hc0_4, hr0_4⟩⟩⟩⟩⟩, ⟨_, _, rfl, rfl, ⟨_, _, rfl, rfl, rfl⟩⟩⟩ := hk0
  clear hA0 hval0 hsz0
  obtain ⟨k_, hk_⟩ := Pure.FnExactIsValidConsole (y0.1).1 (y0.1).2.1 (y0.1).2.2.1 (y0.1).2.2.2.1 (y0.1).2.2.2.2 (y0.2).1 (y0.2).2.1 (y0.2).2.2 ho0.1.1 ho0.1.2.1 ho0.1.2.2.1 ho0.1.2.2.2.1 ho0.1.2.2.2.2 ho0.2.1 ho0.2.2.1 ho0.2.2.2
  show Calls Try.prog 13 #[.agg #[.int .i64 ((y0.1).1), .int .i64 ((y0.1).2.1), .int .i64 ((y0.1).2.2.1), .slice A0_3 (y0.1).2.2.2.1.length c0_3, .slice A0_4 (y0.1).2.2.2.2.length c0_4, .string ((y0.2).1), .string ((y0.2).2.1), .int .i64 ((y0.2).2.2)]] W _
  refine (laws_FnExactIsValidConsole.calls k_ (y0.1).1 (y0.1).2.1 (y0.1).2.2.1 A0_3 c0_3 (y0.1).2.2.2.1 A0_4 c0_4 (y0.1).2.2.2.2 (y0.2).1 (y0.2).2.1 (y0.2).2.2 true W hr0_3 hc0_3 hr0_4 hc0_4 hk_).mono fun e W' ⟨he, bel0⟩ => ?_
  have bel : Below W.heap.size W W' := bel0
  subst he
  exact ⟨_, rfl, _, _, _, [], _, [], hW', trodAll_mk1 (shut_bool Try.underlying4 _), (trodAll_cons_mk (Below.trod laidOut (by kernel_rfl) (of_decide_eq_true (by kernel_rfl)) k0 bel lt0) trodAll_mk0), rfl, bel.frame _, fun h => by cases h⟩
theorem reach1 : Try.prog.inPlace 13 = Rows.fnExactIsValidConsoleRow.inPlace := by kernel_rfl
theorem reach2 : Try.prog.unfollowed 13 = Rows.fnExactIsValidConsoleRow.unfollowed := by kernel_rfl
theorem reach3 : Try.prog.recurses 13 = Rows.fnExactIsValidConsoleRow.recurses := by kernel_rfl
theorem reach4 : Try.prog.varsNamed 13 = Rows.fnExactIsValidConsoleRow.named := by kernel_rfl
theorem closed : joinedFacts Try.prog 13 Try.f13 Rows.fnExactIsValidConsoleSpec Rows.fnExactIsValidConsoleRow = true := by
  unfold joinedFacts
  rw [XP.may, show Try.prog.liftsFinal = Rows.fnExactIsValidConsoleRow.lifted from XP.lifts, show Try.prog.make = some Rows.fnExactIsValidConsoleRow.make from XP.makes, reach1, reach2, reach3, reach4]
  kernel_rfl
theorem wraps : Try.f13.isWrapper Try.prog Rows.fnExactIsValidConsoleRow.wrapper Rows.fnExactIsValidConsoleRow.mainSum := by
  unfold Func.isWrapper
  first | (rw [if_pos (by decide +kernel)]; kernel_rfl) | (rw [if_neg (by decide +kernel)]; exact ⟨rfl, rfl⟩)
theorem over : Rows.fnExactIsValidConsoleRow.holds Try.pinned (OpenSpec.ofChange Rows.fnExactIsValidConsoleSpec) :=
  OpenClaim.holds_of_wide 13 Try.f13 rfl rfl rfl rfl rfl rfl rfl ⟨rfl, rfl, rfl, rfl, rfl⟩ rfl rfl rfl rfl rfl (by kernel_rfl) Try.func13 closed (of_decide_eq_true (by kernel_rfl)) wraps
    (fun os started H enc _ => lifted os started H enc)
theorem proved : Rows.FnExactIsValidConsoleSaid := over
#print axioms proved
end Go.Proofs.Ytafdeppeacmpdaa.fnExactIsValidConsole
namespace Go.Proofs.Ytafdeppeacmpdaa
/-- The row, under a short name, for the claim. -/
theorem fnExactIsValidConsole_holds : Rows.FnExactIsValidConsoleSaid := fnExactIsValidConsole.proved
end Go.Proofs.Ytafdeppeacmpdaa
