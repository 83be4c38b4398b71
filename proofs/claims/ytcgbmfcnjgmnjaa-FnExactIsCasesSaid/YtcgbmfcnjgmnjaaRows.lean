/-
  No cell of these rows narrows 'for every input' (looked for: loops, veiled, ifaces, maps, wideKeys, modest, calm, conditions, laid).
  DERIVED. THE GIVEN ROWS OF THIS SEAT. 14 by the template 'for every input the law returns true; each argument reads behind the call as it read before'; 0 by the template 'total and deterministic' (their statements: YtcgbmfcnjgmnjaaTotals.lean).
  GIVEN WITH THE SEED: the statements are not yours to turn. If you find one false, say at which input.
  Laid BY PROGRAM, IN A SANDBOX (cutbox-rows.mjs): the forced cells as the released guide's own fill.sh prints them over the translation 7338f7dfcd98cf78… (all of the seat's roots in one cut). By AI agents, Wed Nov 11 2026. No macro, syntax, notation, axiom, sorry.
-/
import Derived.Test.YtcgbmfcnjgmnjaaChecked
import GoSem.Claim
import GoSem.ClaimJoined
import GoSem.ClaimMapViews
import Derived.JoinedTies
import Derived.KernelRfl
namespace Go.Proofs.Ytcgbmfcnjgmnjaa
/- THE CELL 'sum', in the pinned program and in every row, IS THE sha256 OF THE DUMP (.gsa) THAT YtcgbmfcnjgmnjaaProg.lean LOADS. Nothing in Lean hashes anything: it is a label: what it is worth is what the hold of that sum in a sandbox is worth. -/
noncomputable def Try.pinned : Pinned := { name := "ytcgbmfcnjgmnjaa", sum := "7338f7dfcd98cf789da188de2e8dd0bfb7537e640716d24d2a7b9e18be535312", checked := Try.checked }
namespace Rows
def none {H : Type} : Left H := { results := [], args := [] }

/-- 'laws.FnSlacks': WHATEVER THE INPUT: true; the input reads as it did. -/
def fnSlacksSpec : ChangeSpec := { name := "fnSlacks", fn := fun _ => fun
  | [d] => { results := [.lit (.bool true)], args := [d] }
  | _ => none }
def fnSlacksRow : OpenClaim := { program := "ytcgbmfcnjgmnjaa", sum := "7338f7dfcd98cf789da188de2e8dd0bfb7537e640716d24d2a7b9e18be535312", func := "loop.example/g01103/laws.FnSlacks", spec := "fnSlacks", unfollowed := true, recurses := true, apart := false }
def FnSlacksSaid : Prop := fnSlacksRow.holds Try.pinned (OpenSpec.ofChange fnSlacksSpec)

/-- ITS FALSE NEIGHBOUR: 'it returns false'. Refute it at one input. -/
def fnSlacksWrong : ChangeSpec := { name := "fnSlacks", fn := fun _ => fun
  | [d] => { results := [.lit (.bool false)], args := [d] }
  | _ => none }
def FnSlacksWrongFalsely : Prop := fnSlacksRow.holds Try.pinned (OpenSpec.ofChange fnSlacksWrong)

/-- 'laws.FnExactIsUndominated': WHATEVER THE INPUT: true; the input reads as it did. -/
def fnExactIsUndominatedSpec : ChangeSpec := { name := "fnExactIsUndominated", fn := fun _ => fun
  | [d1, d2, d3, d4] => { results := [.lit (.bool true)], args := [d1, d2, d3, d4] }
  | _ => none }
def fnExactIsUndominatedRow : OpenClaim := { program := "ytcgbmfcnjgmnjaa", sum := "7338f7dfcd98cf789da188de2e8dd0bfb7537e640716d24d2a7b9e18be535312", func := "loop.example/g01103/laws.FnExactIsUndominated", spec := "fnExactIsUndominated", unfollowed := true, recurses := true, apart := false }
def FnExactIsUndominatedSaid : Prop := fnExactIsUndominatedRow.holds Try.pinned (OpenSpec.ofChange fnExactIsUndominatedSpec)

/-- ITS FALSE NEIGHBOUR: 'it returns false'. Refute it at one input. -/
def fnExactIsUndominatedWrong : ChangeSpec := { name := "fnExactIsUndominated", fn := fun _ => fun
  | [d1, d2, d3, d4] => { results := [.lit (.bool false)], args := [d1, d2, d3, d4] }
  | _ => none }
def FnExactIsUndominatedWrongFalsely : Prop := fnExactIsUndominatedRow.holds Try.pinned (OpenSpec.ofChange fnExactIsUndominatedWrong)

/-- 'laws.FnSchedules': WHATEVER THE INPUT: true; the input reads as it did. -/
def fnSchedulesSpec : ChangeSpec := { name := "fnSchedules", fn := fun _ => fun
  | [d] => { results := [.lit (.bool true)], args := [d] }
  | _ => none }
def fnSchedulesRow : OpenClaim := { program := "ytcgbmfcnjgmnjaa", sum := "7338f7dfcd98cf789da188de2e8dd0bfb7537e640716d24d2a7b9e18be535312", func := "loop.example/g01103/laws.FnSchedules", spec := "fnSchedules", apart := false }
def FnSchedulesSaid : Prop := fnSchedulesRow.holds Try.pinned (OpenSpec.ofChange fnSchedulesSpec)

/-- ITS FALSE NEIGHBOUR: 'it returns false'. Refute it at one input. -/
def fnSchedulesWrong : ChangeSpec := { name := "fnSchedules", fn := fun _ => fun
  | [d] => { results := [.lit (.bool false)], args := [d] }
  | _ => none }
def FnSchedulesWrongFalsely : Prop := fnSchedulesRow.holds Try.pinned (OpenSpec.ofChange fnSchedulesWrong)

/-- 'laws.FnExactPriorityOrders': WHATEVER THE INPUT: true; the input reads as it did. -/
def fnExactPriorityOrdersSpec : ChangeSpec := { name := "fnExactPriorityOrders", fn := fun _ => fun
  | [d1, d2] => { results := [.lit (.bool true)], args := [d1, d2] }
  | _ => none }
def fnExactPriorityOrdersRow : OpenClaim := { program := "ytcgbmfcnjgmnjaa", sum := "7338f7dfcd98cf789da188de2e8dd0bfb7537e640716d24d2a7b9e18be535312", func := "loop.example/g01103/laws.FnExactPriorityOrders", spec := "fnExactPriorityOrders", unfollowed := true, recurses := true, apart := false }
def FnExactPriorityOrdersSaid : Prop := fnExactPriorityOrdersRow.holds Try.pinned (OpenSpec.ofChange fnExactPriorityOrdersSpec)

/-- ITS FALSE NEIGHBOUR: 'it returns false'. Refute it at one input. -/
def fnExactPriorityOrdersWrong : ChangeSpec := { name := "fnExactPriorityOrders", fn := fun _ => fun
  | [d1, d2] => { results := [.lit (.bool false)], args := [d1, d2] }
  | _ => none }
def FnExactPriorityOrdersWrongFalsely : Prop := fnExactPriorityOrdersRow.holds Try.pinned (OpenSpec.ofChange fnExactPriorityOrdersWrong)

/-- 'laws.FnExactPiecePlan': WHATEVER THE INPUT: true; the input reads as it did. -/
def fnExactPiecePlanSpec : ChangeSpec := { name := "fnExactPiecePlan", fn := fun _ => fun
  | [d] => { results := [.lit (.bool true)], args := [d] }
  | _ => none }
def fnExactPiecePlanRow : OpenClaim := { program := "ytcgbmfcnjgmnjaa", sum := "7338f7dfcd98cf789da188de2e8dd0bfb7537e640716d24d2a7b9e18be535312", func := "loop.example/g01103/laws.FnExactPiecePlan", spec := "fnExactPiecePlan", recurses := true, apart := false }
def FnExactPiecePlanSaid : Prop := fnExactPiecePlanRow.holds Try.pinned (OpenSpec.ofChange fnExactPiecePlanSpec)

/-- ITS FALSE NEIGHBOUR: 'it returns false'. Refute it at one input. -/
def fnExactPiecePlanWrong : ChangeSpec := { name := "fnExactPiecePlan", fn := fun _ => fun
  | [d] => { results := [.lit (.bool false)], args := [d] }
  | _ => none }
def FnExactPiecePlanWrongFalsely : Prop := fnExactPiecePlanRow.holds Try.pinned (OpenSpec.ofChange fnExactPiecePlanWrong)

/-- 'laws.FnExactSplitGain': WHATEVER THE INPUT: true; the input reads as it did. -/
def fnExactSplitGainSpec : ChangeSpec := { name := "fnExactSplitGain", fn := fun _ => fun
  | [d1, d2] => { results := [.lit (.bool true)], args := [d1, d2] }
  | _ => none }
def fnExactSplitGainRow : OpenClaim := { program := "ytcgbmfcnjgmnjaa", sum := "7338f7dfcd98cf789da188de2e8dd0bfb7537e640716d24d2a7b9e18be535312", func := "loop.example/g01103/laws.FnExactSplitGain", spec := "fnExactSplitGain", unfollowed := true, recurses := true, apart := false }
def FnExactSplitGainSaid : Prop := fnExactSplitGainRow.holds Try.pinned (OpenSpec.ofChange fnExactSplitGainSpec)

/-- ITS FALSE NEIGHBOUR: 'it returns false'. Refute it at one input. -/
def fnExactSplitGainWrong : ChangeSpec := { name := "fnExactSplitGain", fn := fun _ => fun
  | [d1, d2] => { results := [.lit (.bool false)], args := [d1, d2] }
  | _ => none }
def FnExactSplitGainWrongFalsely : Prop := fnExactSplitGainRow.holds Try.pinned (OpenSpec.ofChange fnExactSplitGainWrong)

/-- 'laws.FnExactLongerWith': WHATEVER THE INPUT: true; the input reads as it did. -/
def fnExactLongerWithSpec : ChangeSpec := { name := "fnExactLongerWith", fn := fun _ => fun
  | [d1, d2, d3, d4] => { results := [.lit (.bool true)], args := [d1, d2, d3, d4] }
  | _ => none }
def fnExactLongerWithRow : OpenClaim := { program := "ytcgbmfcnjgmnjaa", sum := "7338f7dfcd98cf789da188de2e8dd0bfb7537e640716d24d2a7b9e18be535312", func := "loop.example/g01103/laws.FnExactLongerWith", spec := "fnExactLongerWith", unfollowed := true, recurses := true, apart := false }
def FnExactLongerWithSaid : Prop := fnExactLongerWithRow.holds Try.pinned (OpenSpec.ofChange fnExactLongerWithSpec)

/-- ITS FALSE NEIGHBOUR: 'it returns false'. Refute it at one input. -/
def fnExactLongerWithWrong : ChangeSpec := { name := "fnExactLongerWith", fn := fun _ => fun
  | [d1, d2, d3, d4] => { results := [.lit (.bool false)], args := [d1, d2, d3, d4] }
  | _ => none }
def FnExactLongerWithWrongFalsely : Prop := fnExactLongerWithRow.holds Try.pinned (OpenSpec.ofChange fnExactLongerWithWrong)

/-- 'laws.FnExactIsShopProof': WHATEVER THE INPUT: true; the input reads as it did. -/
def fnExactIsShopProofSpec : ChangeSpec := { name := "fnExactIsShopProof", fn := fun _ => fun
  | [d1, d2, d3] => { results := [.lit (.bool true)], args := [d1, d2, d3] }
  | _ => none }
def fnExactIsShopProofRow : OpenClaim := { program := "ytcgbmfcnjgmnjaa", sum := "7338f7dfcd98cf789da188de2e8dd0bfb7537e640716d24d2a7b9e18be535312", func := "loop.example/g01103/laws.FnExactIsShopProof", spec := "fnExactIsShopProof", recurses := true, apart := false }
def FnExactIsShopProofSaid : Prop := fnExactIsShopProofRow.holds Try.pinned (OpenSpec.ofChange fnExactIsShopProofSpec)

/-- ITS FALSE NEIGHBOUR: 'it returns false'. Refute it at one input. -/
def fnExactIsShopProofWrong : ChangeSpec := { name := "fnExactIsShopProof", fn := fun _ => fun
  | [d1, d2, d3] => { results := [.lit (.bool false)], args := [d1, d2, d3] }
  | _ => none }
def FnExactIsShopProofWrongFalsely : Prop := fnExactIsShopProofRow.holds Try.pinned (OpenSpec.ofChange fnExactIsShopProofWrong)

/-- 'laws.FnExactLongerWithout': WHATEVER THE INPUT: true; the input reads as it did. -/
def fnExactLongerWithoutSpec : ChangeSpec := { name := "fnExactLongerWithout", fn := fun _ => fun
  | [d1, d2, d3, d4] => { results := [.lit (.bool true)], args := [d1, d2, d3, d4] }
  | _ => none }
def fnExactLongerWithoutRow : OpenClaim := { program := "ytcgbmfcnjgmnjaa", sum := "7338f7dfcd98cf789da188de2e8dd0bfb7537e640716d24d2a7b9e18be535312", func := "loop.example/g01103/laws.FnExactLongerWithout", spec := "fnExactLongerWithout", unfollowed := true, recurses := true, apart := false }
def FnExactLongerWithoutSaid : Prop := fnExactLongerWithoutRow.holds Try.pinned (OpenSpec.ofChange fnExactLongerWithoutSpec)

/-- ITS FALSE NEIGHBOUR: 'it returns false'. Refute it at one input. -/
def fnExactLongerWithoutWrong : ChangeSpec := { name := "fnExactLongerWithout", fn := fun _ => fun
  | [d1, d2, d3, d4] => { results := [.lit (.bool false)], args := [d1, d2, d3, d4] }
  | _ => none }
def FnExactLongerWithoutWrongFalsely : Prop := fnExactLongerWithoutRow.holds Try.pinned (OpenSpec.ofChange fnExactLongerWithoutWrong)

/-- 'laws.FnExactIsBlockOrder': WHATEVER THE INPUT: true; the input reads as it did. -/
def fnExactIsBlockOrderSpec : ChangeSpec := { name := "fnExactIsBlockOrder", fn := fun _ => fun
  | [d1, d2, d3] => { results := [.lit (.bool true)], args := [d1, d2, d3] }
  | _ => none }
def fnExactIsBlockOrderRow : OpenClaim := { program := "ytcgbmfcnjgmnjaa", sum := "7338f7dfcd98cf789da188de2e8dd0bfb7537e640716d24d2a7b9e18be535312", func := "loop.example/g01103/laws.FnExactIsBlockOrder", spec := "fnExactIsBlockOrder", apart := false }
def FnExactIsBlockOrderSaid : Prop := fnExactIsBlockOrderRow.holds Try.pinned (OpenSpec.ofChange fnExactIsBlockOrderSpec)

/-- ITS FALSE NEIGHBOUR: 'it returns false'. Refute it at one input. -/
def fnExactIsBlockOrderWrong : ChangeSpec := { name := "fnExactIsBlockOrder", fn := fun _ => fun
  | [d1, d2, d3] => { results := [.lit (.bool false)], args := [d1, d2, d3] }
  | _ => none }
def FnExactIsBlockOrderWrongFalsely : Prop := fnExactIsBlockOrderRow.holds Try.pinned (OpenSpec.ofChange fnExactIsBlockOrderWrong)

/-- 'laws.FnExactGreatestRegret': WHATEVER THE INPUT: true; the input reads as it did. -/
def fnExactGreatestRegretSpec : ChangeSpec := { name := "fnExactGreatestRegret", fn := fun _ => fun
  | [d1, d2, d3] => { results := [.lit (.bool true)], args := [d1, d2, d3] }
  | _ => none }
def fnExactGreatestRegretRow : OpenClaim := { program := "ytcgbmfcnjgmnjaa", sum := "7338f7dfcd98cf789da188de2e8dd0bfb7537e640716d24d2a7b9e18be535312", func := "loop.example/g01103/laws.FnExactGreatestRegret", spec := "fnExactGreatestRegret", unfollowed := true, recurses := true, apart := false }
def FnExactGreatestRegretSaid : Prop := fnExactGreatestRegretRow.holds Try.pinned (OpenSpec.ofChange fnExactGreatestRegretSpec)

/-- ITS FALSE NEIGHBOUR: 'it returns false'. Refute it at one input. -/
def fnExactGreatestRegretWrong : ChangeSpec := { name := "fnExactGreatestRegret", fn := fun _ => fun
  | [d1, d2, d3] => { results := [.lit (.bool false)], args := [d1, d2, d3] }
  | _ => none }
def FnExactGreatestRegretWrongFalsely : Prop := fnExactGreatestRegretRow.holds Try.pinned (OpenSpec.ofChange fnExactGreatestRegretWrong)

/-- 'laws.FnExactIsCases': WHATEVER THE INPUT: true; the input reads as it did. -/
def fnExactIsCasesSpec : ChangeSpec := { name := "fnExactIsCases", fn := fun _ => fun
  | [d1, d2, d3, d4] => { results := [.lit (.bool true)], args := [d1, d2, d3, d4] }
  | _ => none }
def fnExactIsCasesRow : OpenClaim := { program := "ytcgbmfcnjgmnjaa", sum := "7338f7dfcd98cf789da188de2e8dd0bfb7537e640716d24d2a7b9e18be535312", func := "loop.example/g01103/laws.FnExactIsCases", spec := "fnExactIsCases", recurses := true, apart := false }
def FnExactIsCasesSaid : Prop := fnExactIsCasesRow.holds Try.pinned (OpenSpec.ofChange fnExactIsCasesSpec)

/-- ITS FALSE NEIGHBOUR: 'it returns false'. Refute it at one input. -/
def fnExactIsCasesWrong : ChangeSpec := { name := "fnExactIsCases", fn := fun _ => fun
  | [d1, d2, d3, d4] => { results := [.lit (.bool false)], args := [d1, d2, d3, d4] }
  | _ => none }
def FnExactIsCasesWrongFalsely : Prop := fnExactIsCasesRow.holds Try.pinned (OpenSpec.ofChange fnExactIsCasesWrong)

/-- 'laws.FnExactDispatchGap': WHATEVER THE INPUT: true; the input reads as it did. -/
def fnExactDispatchGapSpec : ChangeSpec := { name := "fnExactDispatchGap", fn := fun _ => fun
  | [d1, d2] => { results := [.lit (.bool true)], args := [d1, d2] }
  | _ => none }
def fnExactDispatchGapRow : OpenClaim := { program := "ytcgbmfcnjgmnjaa", sum := "7338f7dfcd98cf789da188de2e8dd0bfb7537e640716d24d2a7b9e18be535312", func := "loop.example/g01103/laws.FnExactDispatchGap", spec := "fnExactDispatchGap", unfollowed := true, recurses := true, apart := false }
def FnExactDispatchGapSaid : Prop := fnExactDispatchGapRow.holds Try.pinned (OpenSpec.ofChange fnExactDispatchGapSpec)

/-- ITS FALSE NEIGHBOUR: 'it returns false'. Refute it at one input. -/
def fnExactDispatchGapWrong : ChangeSpec := { name := "fnExactDispatchGap", fn := fun _ => fun
  | [d1, d2] => { results := [.lit (.bool false)], args := [d1, d2] }
  | _ => none }
def FnExactDispatchGapWrongFalsely : Prop := fnExactDispatchGapRow.holds Try.pinned (OpenSpec.ofChange fnExactDispatchGapWrong)

/-- 'laws.FnExactIsValidConsole': WHATEVER THE INPUT: true; the input reads as it did. -/
def fnExactIsValidConsoleSpec : ChangeSpec := { name := "fnExactIsValidConsole", fn := fun _ => fun
  | [d] => { results := [.lit (.bool true)], args := [d] }
  | _ => none }
def fnExactIsValidConsoleRow : OpenClaim := { program := "ytcgbmfcnjgmnjaa", sum := "7338f7dfcd98cf789da188de2e8dd0bfb7537e640716d24d2a7b9e18be535312", func := "loop.example/g01103/laws.FnExactIsValidConsole", spec := "fnExactIsValidConsole", recurses := true, apart := false }
def FnExactIsValidConsoleSaid : Prop := fnExactIsValidConsoleRow.holds Try.pinned (OpenSpec.ofChange fnExactIsValidConsoleSpec)

/-- ITS FALSE NEIGHBOUR: 'it returns false'. Refute it at one input. -/
def fnExactIsValidConsoleWrong : ChangeSpec := { name := "fnExactIsValidConsole", fn := fun _ => fun
  | [d] => { results := [.lit (.bool false)], args := [d] }
  | _ => none }
def FnExactIsValidConsoleWrongFalsely : Prop := fnExactIsValidConsoleRow.holds Try.pinned (OpenSpec.ofChange fnExactIsValidConsoleWrong)

/- THE SECOND FORM. 'bulk': how many values and letters a reading holds, each counted each time it is reached (what is shared counts as often as it is met; a slice's spare places count too). A statement '..UptoSaid' is the law's where the arguments, and the package variables that the reading takes, are together of bulk at most 1048576: NARROWER than '..Said'. Prove '..Said' where nothing that the law and all that it calls make is longer than what came in: it says more and counts as full. Else prove '..UptoSaid'. A law counts once. -/
mutual
def uptoBulk {H : Type} : DataW H → Nat
  | .lit (.string bytes) => bytes.length + 1
  | .lit _ => 1
  | .nil => 1
  | .ptr d => uptoBulk d + 1
  | .slice elems spare => uptoBulkAll elems + uptoBulkAll spare + 1
  | .agg parts => uptoBulkAll parts + 1
  | .iface _ d => uptoBulk d + 1
  | .map entries => uptoBulkEntries entries + 1
  | .held _ => 1
def uptoBulkAll {H : Type} : List (DataW H) → Nat
  | [] => 0
  | d :: r => uptoBulk d + uptoBulkAll r
def uptoBulkEntries {H : Type} : List (Lit × DataW H) → Nat
  | [] => 0
  | x :: r => uptoBulkEntry x + uptoBulkEntries r
def uptoBulkEntry {H : Type} : Lit × DataW H → Nat
  | (.string bytes, d) => bytes.length + uptoBulk d + 1
  | (_, d) => uptoBulk d + 1
 end
def uptoSmall : (H : Type) → List (DataW H) → Bool := fun _ ds => decide (uptoBulkAll ds ≤ 1048576)
def OpenSpec.upto (s : _root_.Go.ChangeSpec) : _root_.Go.OpenSpec := { _root_.Go.OpenSpec.ofChange s with cond := some uptoSmall }

/-- 'laws.FnSlacks', WHERE WHAT IT READS IS OF BULK AT MOST 1048576: true; the input reads as it did. -/
def fnSlacksUptoRow : OpenClaim := { program := "ytcgbmfcnjgmnjaa", sum := "7338f7dfcd98cf789da188de2e8dd0bfb7537e640716d24d2a7b9e18be535312", func := "loop.example/g01103/laws.FnSlacks", spec := "fnSlacks", unfollowed := true, recurses := true, apart := false, narrowed := true }
def FnSlacksUptoSaid : Prop := fnSlacksUptoRow.holds Try.pinned (OpenSpec.upto fnSlacksSpec)

/-- 'laws.FnExactIsUndominated', WHERE WHAT IT READS IS OF BULK AT MOST 1048576: true; the input reads as it did. -/
def fnExactIsUndominatedUptoRow : OpenClaim := { program := "ytcgbmfcnjgmnjaa", sum := "7338f7dfcd98cf789da188de2e8dd0bfb7537e640716d24d2a7b9e18be535312", func := "loop.example/g01103/laws.FnExactIsUndominated", spec := "fnExactIsUndominated", unfollowed := true, recurses := true, apart := false, narrowed := true }
def FnExactIsUndominatedUptoSaid : Prop := fnExactIsUndominatedUptoRow.holds Try.pinned (OpenSpec.upto fnExactIsUndominatedSpec)

/-- 'laws.FnSchedules', WHERE WHAT IT READS IS OF BULK AT MOST 1048576: true; the input reads as it did. -/
def fnSchedulesUptoRow : OpenClaim := { program := "ytcgbmfcnjgmnjaa", sum := "7338f7dfcd98cf789da188de2e8dd0bfb7537e640716d24d2a7b9e18be535312", func := "loop.example/g01103/laws.FnSchedules", spec := "fnSchedules", apart := false, narrowed := true }
def FnSchedulesUptoSaid : Prop := fnSchedulesUptoRow.holds Try.pinned (OpenSpec.upto fnSchedulesSpec)

/-- 'laws.FnExactPriorityOrders', WHERE WHAT IT READS IS OF BULK AT MOST 1048576: true; the input reads as it did. -/
def fnExactPriorityOrdersUptoRow : OpenClaim := { program := "ytcgbmfcnjgmnjaa", sum := "7338f7dfcd98cf789da188de2e8dd0bfb7537e640716d24d2a7b9e18be535312", func := "loop.example/g01103/laws.FnExactPriorityOrders", spec := "fnExactPriorityOrders", unfollowed := true, recurses := true, apart := false, narrowed := true }
def FnExactPriorityOrdersUptoSaid : Prop := fnExactPriorityOrdersUptoRow.holds Try.pinned (OpenSpec.upto fnExactPriorityOrdersSpec)

/-- 'laws.FnExactPiecePlan', WHERE WHAT IT READS IS OF BULK AT MOST 1048576: true; the input reads as it did. -/
def fnExactPiecePlanUptoRow : OpenClaim := { program := "ytcgbmfcnjgmnjaa", sum := "7338f7dfcd98cf789da188de2e8dd0bfb7537e640716d24d2a7b9e18be535312", func := "loop.example/g01103/laws.FnExactPiecePlan", spec := "fnExactPiecePlan", recurses := true, apart := false, narrowed := true }
def FnExactPiecePlanUptoSaid : Prop := fnExactPiecePlanUptoRow.holds Try.pinned (OpenSpec.upto fnExactPiecePlanSpec)

/-- 'laws.FnExactSplitGain', WHERE WHAT IT READS IS OF BULK AT MOST 1048576: true; the input reads as it did. -/
def fnExactSplitGainUptoRow : OpenClaim := { program := "ytcgbmfcnjgmnjaa", sum := "7338f7dfcd98cf789da188de2e8dd0bfb7537e640716d24d2a7b9e18be535312", func := "loop.example/g01103/laws.FnExactSplitGain", spec := "fnExactSplitGain", unfollowed := true, recurses := true, apart := false, narrowed := true }
def FnExactSplitGainUptoSaid : Prop := fnExactSplitGainUptoRow.holds Try.pinned (OpenSpec.upto fnExactSplitGainSpec)

/-- 'laws.FnExactLongerWith', WHERE WHAT IT READS IS OF BULK AT MOST 1048576: true; the input reads as it did. -/
def fnExactLongerWithUptoRow : OpenClaim := { program := "ytcgbmfcnjgmnjaa", sum := "7338f7dfcd98cf789da188de2e8dd0bfb7537e640716d24d2a7b9e18be535312", func := "loop.example/g01103/laws.FnExactLongerWith", spec := "fnExactLongerWith", unfollowed := true, recurses := true, apart := false, narrowed := true }
def FnExactLongerWithUptoSaid : Prop := fnExactLongerWithUptoRow.holds Try.pinned (OpenSpec.upto fnExactLongerWithSpec)

/-- 'laws.FnExactIsShopProof', WHERE WHAT IT READS IS OF BULK AT MOST 1048576: true; the input reads as it did. -/
def fnExactIsShopProofUptoRow : OpenClaim := { program := "ytcgbmfcnjgmnjaa", sum := "7338f7dfcd98cf789da188de2e8dd0bfb7537e640716d24d2a7b9e18be535312", func := "loop.example/g01103/laws.FnExactIsShopProof", spec := "fnExactIsShopProof", recurses := true, apart := false, narrowed := true }
def FnExactIsShopProofUptoSaid : Prop := fnExactIsShopProofUptoRow.holds Try.pinned (OpenSpec.upto fnExactIsShopProofSpec)

/-- 'laws.FnExactLongerWithout', WHERE WHAT IT READS IS OF BULK AT MOST 1048576: true; the input reads as it did. -/
def fnExactLongerWithoutUptoRow : OpenClaim := { program := "ytcgbmfcnjgmnjaa", sum := "7338f7dfcd98cf789da188de2e8dd0bfb7537e640716d24d2a7b9e18be535312", func := "loop.example/g01103/laws.FnExactLongerWithout", spec := "fnExactLongerWithout", unfollowed := true, recurses := true, apart := false, narrowed := true }
def FnExactLongerWithoutUptoSaid : Prop := fnExactLongerWithoutUptoRow.holds Try.pinned (OpenSpec.upto fnExactLongerWithoutSpec)

/-- 'laws.FnExactIsBlockOrder', WHERE WHAT IT READS IS OF BULK AT MOST 1048576: true; the input reads as it did. -/
def fnExactIsBlockOrderUptoRow : OpenClaim := { program := "ytcgbmfcnjgmnjaa", sum := "7338f7dfcd98cf789da188de2e8dd0bfb7537e640716d24d2a7b9e18be535312", func := "loop.example/g01103/laws.FnExactIsBlockOrder", spec := "fnExactIsBlockOrder", apart := false, narrowed := true }
def FnExactIsBlockOrderUptoSaid : Prop := fnExactIsBlockOrderUptoRow.holds Try.pinned (OpenSpec.upto fnExactIsBlockOrderSpec)

/-- 'laws.FnExactGreatestRegret', WHERE WHAT IT READS IS OF BULK AT MOST 1048576: true; the input reads as it did. -/
def fnExactGreatestRegretUptoRow : OpenClaim := { program := "ytcgbmfcnjgmnjaa", sum := "7338f7dfcd98cf789da188de2e8dd0bfb7537e640716d24d2a7b9e18be535312", func := "loop.example/g01103/laws.FnExactGreatestRegret", spec := "fnExactGreatestRegret", unfollowed := true, recurses := true, apart := false, narrowed := true }
def FnExactGreatestRegretUptoSaid : Prop := fnExactGreatestRegretUptoRow.holds Try.pinned (OpenSpec.upto fnExactGreatestRegretSpec)

/-- 'laws.FnExactIsCases', WHERE WHAT IT READS IS OF BULK AT MOST 1048576: true; the input reads as it did. -/
def fnExactIsCasesUptoRow : OpenClaim := { program := "ytcgbmfcnjgmnjaa", sum := "7338f7dfcd98cf789da188de2e8dd0bfb7537e640716d24d2a7b9e18be535312", func := "loop.example/g01103/laws.FnExactIsCases", spec := "fnExactIsCases", recurses := true, apart := false, narrowed := true }
def FnExactIsCasesUptoSaid : Prop := fnExactIsCasesUptoRow.holds Try.pinned (OpenSpec.upto fnExactIsCasesSpec)

/-- 'laws.FnExactDispatchGap', WHERE WHAT IT READS IS OF BULK AT MOST 1048576: true; the input reads as it did. -/
def fnExactDispatchGapUptoRow : OpenClaim := { program := "ytcgbmfcnjgmnjaa", sum := "7338f7dfcd98cf789da188de2e8dd0bfb7537e640716d24d2a7b9e18be535312", func := "loop.example/g01103/laws.FnExactDispatchGap", spec := "fnExactDispatchGap", unfollowed := true, recurses := true, apart := false, narrowed := true }
def FnExactDispatchGapUptoSaid : Prop := fnExactDispatchGapUptoRow.holds Try.pinned (OpenSpec.upto fnExactDispatchGapSpec)

/-- 'laws.FnExactIsValidConsole', WHERE WHAT IT READS IS OF BULK AT MOST 1048576: true; the input reads as it did. -/
def fnExactIsValidConsoleUptoRow : OpenClaim := { program := "ytcgbmfcnjgmnjaa", sum := "7338f7dfcd98cf789da188de2e8dd0bfb7537e640716d24d2a7b9e18be535312", func := "loop.example/g01103/laws.FnExactIsValidConsole", spec := "fnExactIsValidConsole", recurses := true, apart := false, narrowed := true }
def FnExactIsValidConsoleUptoSaid : Prop := fnExactIsValidConsoleUptoRow.holds Try.pinned (OpenSpec.upto fnExactIsValidConsoleSpec)

end Rows
end Go.Proofs.Ytcgbmfcnjgmnjaa
