/-
  No cell of these rows narrows 'for every input' (looked for: loops, veiled, ifaces, maps, wideKeys, modest, calm, conditions, laid).
  DERIVED. THE GIVEN ROWS OF THIS SEAT. 12 by the template 'for every input the law returns true; each argument reads behind the call as it read before'; 0 by the template 'total and deterministic' (their statements: YtjjfdamdbplgaaaTotals.lean).
  GIVEN WITH THE SEED: the statements are not yours to turn. If you find one false, say at which input.
  Laid BY PROGRAM, IN A SANDBOX (cutbox-rows.mjs): the forced cells as the released guide's own fill.sh prints them over the translation d1e6f244e0849647… (all of the seat's roots in one cut). By AI agents, Wed Nov 11 2026. No macro, syntax, notation, axiom, sorry.
-/
import Derived.Test.YtjjfdamdbplgaaaChecked
import GoSem.Claim
import GoSem.ClaimJoined
import GoSem.ClaimMapViews
import Derived.JoinedTies
import Derived.KernelRfl
namespace Go.Proofs.Ytjjfdamdbplgaaa
/- THE CELL 'sum', in the pinned program and in every row, IS THE sha256 OF THE DUMP (.gsa) THAT YtjjfdamdbplgaaaProg.lean LOADS. Nothing in Lean hashes anything: it is a label: what it is worth is what the hold of that sum in a sandbox is worth. -/
noncomputable def Try.pinned : Pinned := { name := "ytjjfdamdbplgaaa", sum := "d1e6f244e084964701a3a8932cc1077e853db8cb6ed20e8825dacbbd5ec5e9a6", checked := Try.checked }
namespace Rows
def none {H : Type} : Left H := { results := [], args := [] }

/-- 'laws.FnExactExchangeGain': WHATEVER THE INPUT: true; the input reads as it did. -/
def fnExactExchangeGainSpec : ChangeSpec := { name := "fnExactExchangeGain", fn := fun _ => fun
  | [d1, d2, d3, d4] => { results := [.lit (.bool true)], args := [d1, d2, d3, d4] }
  | _ => none }
def fnExactExchangeGainRow : OpenClaim := { program := "ytjjfdamdbplgaaa", sum := "d1e6f244e084964701a3a8932cc1077e853db8cb6ed20e8825dacbbd5ec5e9a6", func := "loop.example/g01103/laws.FnExactExchangeGain", spec := "fnExactExchangeGain", apart := false }
def FnExactExchangeGainSaid : Prop := fnExactExchangeGainRow.holds Try.pinned (OpenSpec.ofChange fnExactExchangeGainSpec)

/-- ITS FALSE NEIGHBOUR: 'it returns false'. Refute it at one input. -/
def fnExactExchangeGainWrong : ChangeSpec := { name := "fnExactExchangeGain", fn := fun _ => fun
  | [d1, d2, d3, d4] => { results := [.lit (.bool false)], args := [d1, d2, d3, d4] }
  | _ => none }
def FnExactExchangeGainWrongFalsely : Prop := fnExactExchangeGainRow.holds Try.pinned (OpenSpec.ofChange fnExactExchangeGainWrong)

/-- 'laws.FnExactInversionsOf': WHATEVER THE INPUT: true; the input reads as it did. -/
def fnExactInversionsOfSpec : ChangeSpec := { name := "fnExactInversionsOf", fn := fun _ => fun
  | [d1, d2, d3] => { results := [.lit (.bool true)], args := [d1, d2, d3] }
  | _ => none }
def fnExactInversionsOfRow : OpenClaim := { program := "ytjjfdamdbplgaaa", sum := "d1e6f244e084964701a3a8932cc1077e853db8cb6ed20e8825dacbbd5ec5e9a6", func := "loop.example/g01103/laws.FnExactInversionsOf", spec := "fnExactInversionsOf", apart := false }
def FnExactInversionsOfSaid : Prop := fnExactInversionsOfRow.holds Try.pinned (OpenSpec.ofChange fnExactInversionsOfSpec)

/-- ITS FALSE NEIGHBOUR: 'it returns false'. Refute it at one input. -/
def fnExactInversionsOfWrong : ChangeSpec := { name := "fnExactInversionsOf", fn := fun _ => fun
  | [d1, d2, d3] => { results := [.lit (.bool false)], args := [d1, d2, d3] }
  | _ => none }
def FnExactInversionsOfWrongFalsely : Prop := fnExactInversionsOfRow.holds Try.pinned (OpenSpec.ofChange fnExactInversionsOfWrong)

/-- 'laws.FnExactTimelyOrder': WHATEVER THE INPUT: true; the input reads as it did. -/
def fnExactTimelyOrderSpec : ChangeSpec := { name := "fnExactTimelyOrder", fn := fun _ => fun
  | [d1, d2] => { results := [.lit (.bool true)], args := [d1, d2] }
  | _ => none }
def fnExactTimelyOrderRow : OpenClaim := { program := "ytjjfdamdbplgaaa", sum := "d1e6f244e084964701a3a8932cc1077e853db8cb6ed20e8825dacbbd5ec5e9a6", func := "loop.example/g01103/laws.FnExactTimelyOrder", spec := "fnExactTimelyOrder", unfollowed := true, recurses := true, apart := false }
def FnExactTimelyOrderSaid : Prop := fnExactTimelyOrderRow.holds Try.pinned (OpenSpec.ofChange fnExactTimelyOrderSpec)

/-- ITS FALSE NEIGHBOUR: 'it returns false'. Refute it at one input. -/
def fnExactTimelyOrderWrong : ChangeSpec := { name := "fnExactTimelyOrder", fn := fun _ => fun
  | [d1, d2] => { results := [.lit (.bool false)], args := [d1, d2] }
  | _ => none }
def FnExactTimelyOrderWrongFalsely : Prop := fnExactTimelyOrderRow.holds Try.pinned (OpenSpec.ofChange fnExactTimelyOrderWrong)

/-- 'laws.FnExactEndsSoFar': WHATEVER THE INPUT: true; the input reads as it did. -/
def fnExactEndsSoFarSpec : ChangeSpec := { name := "fnExactEndsSoFar", fn := fun _ => fun
  | [d] => { results := [.lit (.bool true)], args := [d] }
  | _ => none }
def fnExactEndsSoFarRow : OpenClaim := { program := "ytjjfdamdbplgaaa", sum := "d1e6f244e084964701a3a8932cc1077e853db8cb6ed20e8825dacbbd5ec5e9a6", func := "loop.example/g01103/laws.FnExactEndsSoFar", spec := "fnExactEndsSoFar", apart := false }
def FnExactEndsSoFarSaid : Prop := fnExactEndsSoFarRow.holds Try.pinned (OpenSpec.ofChange fnExactEndsSoFarSpec)

/-- ITS FALSE NEIGHBOUR: 'it returns false'. Refute it at one input. -/
def fnExactEndsSoFarWrong : ChangeSpec := { name := "fnExactEndsSoFar", fn := fun _ => fun
  | [d] => { results := [.lit (.bool false)], args := [d] }
  | _ => none }
def FnExactEndsSoFarWrongFalsely : Prop := fnExactEndsSoFarRow.holds Try.pinned (OpenSpec.ofChange fnExactEndsSoFarWrong)

/-- 'laws.FnExactLateRule': WHATEVER THE INPUT: true; the input reads as it did. -/
def fnExactLateRuleSpec : ChangeSpec := { name := "fnExactLateRule", fn := fun _ => fun
  | [d] => { results := [.lit (.bool true)], args := [d] }
  | _ => none }
def fnExactLateRuleRow : OpenClaim := { program := "ytjjfdamdbplgaaa", sum := "d1e6f244e084964701a3a8932cc1077e853db8cb6ed20e8825dacbbd5ec5e9a6", func := "loop.example/g01103/laws.FnExactLateRule", spec := "fnExactLateRule", unfollowed := true, recurses := true, apart := false }
def FnExactLateRuleSaid : Prop := fnExactLateRuleRow.holds Try.pinned (OpenSpec.ofChange fnExactLateRuleSpec)

/-- ITS FALSE NEIGHBOUR: 'it returns false'. Refute it at one input. -/
def fnExactLateRuleWrong : ChangeSpec := { name := "fnExactLateRule", fn := fun _ => fun
  | [d] => { results := [.lit (.bool false)], args := [d] }
  | _ => none }
def FnExactLateRuleWrongFalsely : Prop := fnExactLateRuleRow.holds Try.pinned (OpenSpec.ofChange fnExactLateRuleWrong)

/-- 'laws.FnExactYieldOf': WHATEVER THE INPUT: true; the input reads as it did. -/
def fnExactYieldOfSpec : ChangeSpec := { name := "fnExactYieldOf", fn := fun _ => fun
  | [d1, d2] => { results := [.lit (.bool true)], args := [d1, d2] }
  | _ => none }
def fnExactYieldOfRow : OpenClaim := { program := "ytjjfdamdbplgaaa", sum := "d1e6f244e084964701a3a8932cc1077e853db8cb6ed20e8825dacbbd5ec5e9a6", func := "loop.example/g01103/laws.FnExactYieldOf", spec := "fnExactYieldOf", apart := false }
def FnExactYieldOfSaid : Prop := fnExactYieldOfRow.holds Try.pinned (OpenSpec.ofChange fnExactYieldOfSpec)

/-- ITS FALSE NEIGHBOUR: 'it returns false'. Refute it at one input. -/
def fnExactYieldOfWrong : ChangeSpec := { name := "fnExactYieldOf", fn := fun _ => fun
  | [d1, d2] => { results := [.lit (.bool false)], args := [d1, d2] }
  | _ => none }
def FnExactYieldOfWrongFalsely : Prop := fnExactYieldOfRow.holds Try.pinned (OpenSpec.ofChange fnExactYieldOfWrong)

/-- 'laws.FnExactRunningJobs': WHATEVER THE INPUT: true; the input reads as it did. -/
def fnExactRunningJobsSpec : ChangeSpec := { name := "fnExactRunningJobs", fn := fun _ => fun
  | [d] => { results := [.lit (.bool true)], args := [d] }
  | _ => none }
def fnExactRunningJobsRow : OpenClaim := { program := "ytjjfdamdbplgaaa", sum := "d1e6f244e084964701a3a8932cc1077e853db8cb6ed20e8825dacbbd5ec5e9a6", func := "loop.example/g01103/laws.FnExactRunningJobs", spec := "fnExactRunningJobs", apart := false }
def FnExactRunningJobsSaid : Prop := fnExactRunningJobsRow.holds Try.pinned (OpenSpec.ofChange fnExactRunningJobsSpec)

/-- ITS FALSE NEIGHBOUR: 'it returns false'. Refute it at one input. -/
def fnExactRunningJobsWrong : ChangeSpec := { name := "fnExactRunningJobs", fn := fun _ => fun
  | [d] => { results := [.lit (.bool false)], args := [d] }
  | _ => none }
def FnExactRunningJobsWrongFalsely : Prop := fnExactRunningJobsRow.holds Try.pinned (OpenSpec.ofChange fnExactRunningJobsWrong)

/-- 'laws.FnExactUnitSlots': WHATEVER THE INPUT: true; the input reads as it did. -/
def fnExactUnitSlotsSpec : ChangeSpec := { name := "fnExactUnitSlots", fn := fun _ => fun
  | [d1, d2] => { results := [.lit (.bool true)], args := [d1, d2] }
  | _ => none }
def fnExactUnitSlotsRow : OpenClaim := { program := "ytjjfdamdbplgaaa", sum := "d1e6f244e084964701a3a8932cc1077e853db8cb6ed20e8825dacbbd5ec5e9a6", func := "loop.example/g01103/laws.FnExactUnitSlots", spec := "fnExactUnitSlots", unfollowed := true, recurses := true, apart := false }
def FnExactUnitSlotsSaid : Prop := fnExactUnitSlotsRow.holds Try.pinned (OpenSpec.ofChange fnExactUnitSlotsSpec)

/-- ITS FALSE NEIGHBOUR: 'it returns false'. Refute it at one input. -/
def fnExactUnitSlotsWrong : ChangeSpec := { name := "fnExactUnitSlots", fn := fun _ => fun
  | [d1, d2] => { results := [.lit (.bool false)], args := [d1, d2] }
  | _ => none }
def FnExactUnitSlotsWrongFalsely : Prop := fnExactUnitSlotsRow.holds Try.pinned (OpenSpec.ofChange fnExactUnitSlotsWrong)

/-- 'laws.FnExactNextExchange': WHATEVER THE INPUT: true; the input reads as it did. -/
def fnExactNextExchangeSpec : ChangeSpec := { name := "fnExactNextExchange", fn := fun _ => fun
  | [d1, d2, d3] => { results := [.lit (.bool true)], args := [d1, d2, d3] }
  | _ => none }
def fnExactNextExchangeRow : OpenClaim := { program := "ytjjfdamdbplgaaa", sum := "d1e6f244e084964701a3a8932cc1077e853db8cb6ed20e8825dacbbd5ec5e9a6", func := "loop.example/g01103/laws.FnExactNextExchange", spec := "fnExactNextExchange", apart := false }
def FnExactNextExchangeSaid : Prop := fnExactNextExchangeRow.holds Try.pinned (OpenSpec.ofChange fnExactNextExchangeSpec)

/-- ITS FALSE NEIGHBOUR: 'it returns false'. Refute it at one input. -/
def fnExactNextExchangeWrong : ChangeSpec := { name := "fnExactNextExchange", fn := fun _ => fun
  | [d1, d2, d3] => { results := [.lit (.bool false)], args := [d1, d2, d3] }
  | _ => none }
def FnExactNextExchangeWrongFalsely : Prop := fnExactNextExchangeRow.holds Try.pinned (OpenSpec.ofChange fnExactNextExchangeWrong)

/-- 'laws.FnExactWaitingJobs': WHATEVER THE INPUT: true; the input reads as it did. -/
def fnExactWaitingJobsSpec : ChangeSpec := { name := "fnExactWaitingJobs", fn := fun _ => fun
  | [d] => { results := [.lit (.bool true)], args := [d] }
  | _ => none }
def fnExactWaitingJobsRow : OpenClaim := { program := "ytjjfdamdbplgaaa", sum := "d1e6f244e084964701a3a8932cc1077e853db8cb6ed20e8825dacbbd5ec5e9a6", func := "loop.example/g01103/laws.FnExactWaitingJobs", spec := "fnExactWaitingJobs", apart := false }
def FnExactWaitingJobsSaid : Prop := fnExactWaitingJobsRow.holds Try.pinned (OpenSpec.ofChange fnExactWaitingJobsSpec)

/-- ITS FALSE NEIGHBOUR: 'it returns false'. Refute it at one input. -/
def fnExactWaitingJobsWrong : ChangeSpec := { name := "fnExactWaitingJobs", fn := fun _ => fun
  | [d] => { results := [.lit (.bool false)], args := [d] }
  | _ => none }
def FnExactWaitingJobsWrongFalsely : Prop := fnExactWaitingJobsRow.holds Try.pinned (OpenSpec.ofChange fnExactWaitingJobsWrong)

/-- 'laws.FnExactIsFair': WHATEVER THE INPUT: true; the input reads as it did. -/
def fnExactIsFairSpec : ChangeSpec := { name := "fnExactIsFair", fn := fun _ => fun
  | [d1, d2, d3] => { results := [.lit (.bool true)], args := [d1, d2, d3] }
  | _ => none }
def fnExactIsFairRow : OpenClaim := { program := "ytjjfdamdbplgaaa", sum := "d1e6f244e084964701a3a8932cc1077e853db8cb6ed20e8825dacbbd5ec5e9a6", func := "loop.example/g01103/laws.FnExactIsFair", spec := "fnExactIsFair", apart := false }
def FnExactIsFairSaid : Prop := fnExactIsFairRow.holds Try.pinned (OpenSpec.ofChange fnExactIsFairSpec)

/-- ITS FALSE NEIGHBOUR: 'it returns false'. Refute it at one input. -/
def fnExactIsFairWrong : ChangeSpec := { name := "fnExactIsFair", fn := fun _ => fun
  | [d1, d2, d3] => { results := [.lit (.bool false)], args := [d1, d2, d3] }
  | _ => none }
def FnExactIsFairWrongFalsely : Prop := fnExactIsFairRow.holds Try.pinned (OpenSpec.ofChange fnExactIsFairWrong)

/-- 'laws.FnExactDispatchValue': WHATEVER THE INPUT: true; the input reads as it did. -/
def fnExactDispatchValueSpec : ChangeSpec := { name := "fnExactDispatchValue", fn := fun _ => fun
  | [d1, d2] => { results := [.lit (.bool true)], args := [d1, d2] }
  | _ => none }
def fnExactDispatchValueRow : OpenClaim := { program := "ytjjfdamdbplgaaa", sum := "d1e6f244e084964701a3a8932cc1077e853db8cb6ed20e8825dacbbd5ec5e9a6", func := "loop.example/g01103/laws.FnExactDispatchValue", spec := "fnExactDispatchValue", apart := false }
def FnExactDispatchValueSaid : Prop := fnExactDispatchValueRow.holds Try.pinned (OpenSpec.ofChange fnExactDispatchValueSpec)

/-- ITS FALSE NEIGHBOUR: 'it returns false'. Refute it at one input. -/
def fnExactDispatchValueWrong : ChangeSpec := { name := "fnExactDispatchValue", fn := fun _ => fun
  | [d1, d2] => { results := [.lit (.bool false)], args := [d1, d2] }
  | _ => none }
def FnExactDispatchValueWrongFalsely : Prop := fnExactDispatchValueRow.holds Try.pinned (OpenSpec.ofChange fnExactDispatchValueWrong)

/- THE SECOND FORM. 'bulk': how many values and letters a reading holds, each counted each time it is reached (what is shared counts as often as it is met; a slice's spare places count too). A statement '..UptoSaid' is the law's where the arguments, and the package variables that the reading takes, are together of bulk at most 1048576: NARROWER than '..Said'. Prove '..Said' where nothing that the law and all that it calls make is longer than what came in: it says more and counts as full. Else prove '..UptoSaid'. A law counts once. -/
mutual
def uptoBulk {H : Type} : DataW H → Nat
  | .lit (.string bytes) => bytes.length + 1
  | .lit _ => 1
  | .nil => 1
  | .ptr d => uptoBulk d + 1
  | .slice elems spare => uptoBulkAll elems + uptoBulkAll spare + 1
  | .agg parts => uptoBulkAll parts + 1
  | .iface _ d => uptoBulk d + 1
  | .map entries => uptoBulkEntries entries + 1
  | .held _ => 1
def uptoBulkAll {H : Type} : List (DataW H) → Nat
  | [] => 0
  | d :: r => uptoBulk d + uptoBulkAll r
def uptoBulkEntries {H : Type} : List (Lit × DataW H) → Nat
  | [] => 0
  | x :: r => uptoBulkEntry x + uptoBulkEntries r
def uptoBulkEntry {H : Type} : Lit × DataW H → Nat
  | (.string bytes, d) => bytes.length + uptoBulk d + 1
  | (_, d) => uptoBulk d + 1
 end
def uptoSmall : (H : Type) → List (DataW H) → Bool := fun _ ds => decide (uptoBulkAll ds ≤ 1048576)
def OpenSpec.upto (s : _root_.Go.ChangeSpec) : _root_.Go.OpenSpec := { _root_.Go.OpenSpec.ofChange s with cond := some uptoSmall }

/-- 'laws.FnExactExchangeGain', WHERE WHAT IT READS IS OF BULK AT MOST 1048576: true; the input reads as it did. -/
def fnExactExchangeGainUptoRow : OpenClaim := { program := "ytjjfdamdbplgaaa", sum := "d1e6f244e084964701a3a8932cc1077e853db8cb6ed20e8825dacbbd5ec5e9a6", func := "loop.example/g01103/laws.FnExactExchangeGain", spec := "fnExactExchangeGain", apart := false, narrowed := true }
def FnExactExchangeGainUptoSaid : Prop := fnExactExchangeGainUptoRow.holds Try.pinned (OpenSpec.upto fnExactExchangeGainSpec)

/-- 'laws.FnExactInversionsOf', WHERE WHAT IT READS IS OF BULK AT MOST 1048576: true; the input reads as it did. -/
def fnExactInversionsOfUptoRow : OpenClaim := { program := "ytjjfdamdbplgaaa", sum := "d1e6f244e084964701a3a8932cc1077e853db8cb6ed20e8825dacbbd5ec5e9a6", func := "loop.example/g01103/laws.FnExactInversionsOf", spec := "fnExactInversionsOf", apart := false, narrowed := true }
def FnExactInversionsOfUptoSaid : Prop := fnExactInversionsOfUptoRow.holds Try.pinned (OpenSpec.upto fnExactInversionsOfSpec)

/-- 'laws.FnExactTimelyOrder', WHERE WHAT IT READS IS OF BULK AT MOST 1048576: true; the input reads as it did. -/
def fnExactTimelyOrderUptoRow : OpenClaim := { program := "ytjjfdamdbplgaaa", sum := "d1e6f244e084964701a3a8932cc1077e853db8cb6ed20e8825dacbbd5ec5e9a6", func := "loop.example/g01103/laws.FnExactTimelyOrder", spec := "fnExactTimelyOrder", unfollowed := true, recurses := true, apart := false, narrowed := true }
def FnExactTimelyOrderUptoSaid : Prop := fnExactTimelyOrderUptoRow.holds Try.pinned (OpenSpec.upto fnExactTimelyOrderSpec)

/-- 'laws.FnExactEndsSoFar', WHERE WHAT IT READS IS OF BULK AT MOST 1048576: true; the input reads as it did. -/
def fnExactEndsSoFarUptoRow : OpenClaim := { program := "ytjjfdamdbplgaaa", sum := "d1e6f244e084964701a3a8932cc1077e853db8cb6ed20e8825dacbbd5ec5e9a6", func := "loop.example/g01103/laws.FnExactEndsSoFar", spec := "fnExactEndsSoFar", apart := false, narrowed := true }
def FnExactEndsSoFarUptoSaid : Prop := fnExactEndsSoFarUptoRow.holds Try.pinned (OpenSpec.upto fnExactEndsSoFarSpec)

/-- 'laws.FnExactLateRule', WHERE WHAT IT READS IS OF BULK AT MOST 1048576: true; the input reads as it did. -/
def fnExactLateRuleUptoRow : OpenClaim := { program := "ytjjfdamdbplgaaa", sum := "d1e6f244e084964701a3a8932cc1077e853db8cb6ed20e8825dacbbd5ec5e9a6", func := "loop.example/g01103/laws.FnExactLateRule", spec := "fnExactLateRule", unfollowed := true, recurses := true, apart := false, narrowed := true }
def FnExactLateRuleUptoSaid : Prop := fnExactLateRuleUptoRow.holds Try.pinned (OpenSpec.upto fnExactLateRuleSpec)

/-- 'laws.FnExactYieldOf', WHERE WHAT IT READS IS OF BULK AT MOST 1048576: true; the input reads as it did. -/
def fnExactYieldOfUptoRow : OpenClaim := { program := "ytjjfdamdbplgaaa", sum := "d1e6f244e084964701a3a8932cc1077e853db8cb6ed20e8825dacbbd5ec5e9a6", func := "loop.example/g01103/laws.FnExactYieldOf", spec := "fnExactYieldOf", apart := false, narrowed := true }
def FnExactYieldOfUptoSaid : Prop := fnExactYieldOfUptoRow.holds Try.pinned (OpenSpec.upto fnExactYieldOfSpec)

/-- 'laws.FnExactRunningJobs', WHERE WHAT IT READS IS OF BULK AT MOST 1048576: true; the input reads as it did. -/
def fnExactRunningJobsUptoRow : OpenClaim := { program := "ytjjfdamdbplgaaa", sum := "d1e6f244e084964701a3a8932cc1077e853db8cb6ed20e8825dacbbd5ec5e9a6", func := "loop.example/g01103/laws.FnExactRunningJobs", spec := "fnExactRunningJobs", apart := false, narrowed := true }
def FnExactRunningJobsUptoSaid : Prop := fnExactRunningJobsUptoRow.holds Try.pinned (OpenSpec.upto fnExactRunningJobsSpec)

/-- 'laws.FnExactUnitSlots', WHERE WHAT IT READS IS OF BULK AT MOST 1048576: true; the input reads as it did. -/
def fnExactUnitSlotsUptoRow : OpenClaim := { program := "ytjjfdamdbplgaaa", sum := "d1e6f244e084964701a3a8932cc1077e853db8cb6ed20e8825dacbbd5ec5e9a6", func := "loop.example/g01103/laws.FnExactUnitSlots", spec := "fnExactUnitSlots", unfollowed := true, recurses := true, apart := false, narrowed := true }
def FnExactUnitSlotsUptoSaid : Prop := fnExactUnitSlotsUptoRow.holds Try.pinned (OpenSpec.upto fnExactUnitSlotsSpec)

/-- 'laws.FnExactNextExchange', WHERE WHAT IT READS IS OF BULK AT MOST 1048576: true; the input reads as it did. -/
def fnExactNextExchangeUptoRow : OpenClaim := { program := "ytjjfdamdbplgaaa", sum := "d1e6f244e084964701a3a8932cc1077e853db8cb6ed20e8825dacbbd5ec5e9a6", func := "loop.example/g01103/laws.FnExactNextExchange", spec := "fnExactNextExchange", apart := false, narrowed := true }
def FnExactNextExchangeUptoSaid : Prop := fnExactNextExchangeUptoRow.holds Try.pinned (OpenSpec.upto fnExactNextExchangeSpec)

/-- 'laws.FnExactWaitingJobs', WHERE WHAT IT READS IS OF BULK AT MOST 1048576: true; the input reads as it did. -/
def fnExactWaitingJobsUptoRow : OpenClaim := { program := "ytjjfdamdbplgaaa", sum := "d1e6f244e084964701a3a8932cc1077e853db8cb6ed20e8825dacbbd5ec5e9a6", func := "loop.example/g01103/laws.FnExactWaitingJobs", spec := "fnExactWaitingJobs", apart := false, narrowed := true }
def FnExactWaitingJobsUptoSaid : Prop := fnExactWaitingJobsUptoRow.holds Try.pinned (OpenSpec.upto fnExactWaitingJobsSpec)

/-- 'laws.FnExactIsFair', WHERE WHAT IT READS IS OF BULK AT MOST 1048576: true; the input reads as it did. -/
def fnExactIsFairUptoRow : OpenClaim := { program := "ytjjfdamdbplgaaa", sum := "d1e6f244e084964701a3a8932cc1077e853db8cb6ed20e8825dacbbd5ec5e9a6", func := "loop.example/g01103/laws.FnExactIsFair", spec := "fnExactIsFair", apart := false, narrowed := true }
def FnExactIsFairUptoSaid : Prop := fnExactIsFairUptoRow.holds Try.pinned (OpenSpec.upto fnExactIsFairSpec)

/-- 'laws.FnExactDispatchValue', WHERE WHAT IT READS IS OF BULK AT MOST 1048576: true; the input reads as it did. -/
def fnExactDispatchValueUptoRow : OpenClaim := { program := "ytjjfdamdbplgaaa", sum := "d1e6f244e084964701a3a8932cc1077e853db8cb6ed20e8825dacbbd5ec5e9a6", func := "loop.example/g01103/laws.FnExactDispatchValue", spec := "fnExactDispatchValue", apart := false, narrowed := true }
def FnExactDispatchValueUptoSaid : Prop := fnExactDispatchValueUptoRow.holds Try.pinned (OpenSpec.upto fnExactDispatchValueSpec)

end Rows
end Go.Proofs.Ytjjfdamdbplgaaa
