-- Written by a program of this session (wip/gen/xp.py, over the kit's printer). Not trusted: Lean checks it.
import Derived.Test.YtpdjnbbikgkgpaaX0
import Derived.Test.YtpdjnbbikgkgpaaXf18
namespace Go.Proofs.Ytpdjnbbikgkgpaa.X
open Go.RowKit Go.Proofs.YtpdjnbbikgkgpaaW.PrintWords Go.Proofs.YtpdjnbbikgkgpaaW.PrintLast Go.Proofs.YtpdjnbbikgkgpaaW.PrintMore
attribute [local go_sem] max2_int min2_int max_two min_two max_three min_three max_four min_four   -- for this text's walks alone
set_option linter.unusedVariables false
set_option linter.unusedSimpArgs false

/-! ### impl_ascending_1: function 113 -/
def impl_ascending_1.f (a b : Int) : Option Bool := some (decide (a < b))
set_option maxHeartbeats 1600000 in
set_option maxRecDepth 100000 in
theorem impl_ascending_1.ahead (W0 : World) : impl_sortedBy.AheadAt 113 #[] impl_ascending_1.f W0 := by
 intro W a b r hB hpr
 obtain rfl := Option.some.inj hpr
 clear hpr hB
 show Calls Try.prog 113 #[.int .i64 a, .int .i64 b] W _
 go_enter Try.func113, Try.ntmps113
 go_wp2
 go_ret
 exact ⟨rfl, Below.refl W.heap.size W⟩

/-! ### impl_ascending: function 90 -/
def impl_ascending.f (l0 : List (Int)) : Option (List (Int)) := if l0.length ≤ 1000000 then impl_sortedBy.sortO impl_ascending_1.f l0 [] else none
set_option maxRecDepth 100000 in
theorem impl_ascending.heg (args : Array Value) (w : World) : (callFunc 113 args).run Try.prog w = .ok (.enter 113 args) w := by
 first | (unfold callFunc; go_simp; done) | (unfold callFunc; go_simp; rfl) | rfl
set_option maxHeartbeats 1600000 in
set_option maxRecDepth 100000 in
theorem impl_ascending.calls (A0 : Option Addr) (c0 : Nat) (l0 : List (Int)) (r : List (Int)) (w : World) (hr0 : Kd.C (Kd.int .i64) w A0 l0.length l0) (hc0 : l0.length ≤ c0) (h : impl_ascending.f l0 = some r) :
  Calls Try.prog 90 #[.slice A0 l0.length c0] w fun e w' => ∃ v0_ : Value, e = .returned (v0_) ∧ Kd.R (Kd.int .i64) 3 w' w.heap.size (fun _ => True) v0_ r ∧ Below w.heap.size w w' := by
 unfold impl_ascending.f at h
 split at h
 case isFalse => cases h
 case isTrue hn =>
 have HC := Aside0.mk (fun (W : World) (hW : Below w.heap.size w W) => impl_sortedBy.calls 113 #[] impl_ascending_1.f A0 c0 l0 r W (Kd.C_below hr0 hW) hc0 hn impl_ascending.heg (impl_ascending_1.ahead W) h)
 clear hr0 hc0 h hn
 have HB := Aside0.mk (Below.refl w.heap.size w)
 go_enter Try.func90, Try.ntmps90
 go_wp2_with ((with_reducible refine ((HC.out _ (bw HB.out)).mono ?_)); rintro e w' ⟨v1, rfl, hR1, hB1⟩; have HR1 := Aside0.mk (Kd.R_lower hR1 (below_size (bw HB.out))); have HB1 := Aside0.mk (below_step (bw HB.out) hB1); clear hR1 hB1)
 go_ret
 exact ⟨_, rfl, HR1.out, HB1.out⟩

end Go.Proofs.Ytpdjnbbikgkgpaa.X
