/-
  No cell of these rows narrows 'for every input' (looked for: loops, veiled, ifaces, maps, wideKeys, modest, calm, conditions, laid).
  DERIVED. THE GIVEN ROWS OF THIS SEAT. 12 by the template 'for every input the law returns true; each argument reads behind the call as it read before'; 0 by the template 'total and deterministic' (their statements: YtkcnedkgpinabaaTotals.lean).
  GIVEN WITH THE SEED: the statements are not yours to turn. If you find one false, say at which input.
  Laid BY PROGRAM, IN A SANDBOX (cutbox-rows.mjs): the forced cells as the released guide's own fill.sh prints them over the translation 5561c6e9a3dad13f… (all of the seat's roots in one cut). By AI agents, Wed Nov 11 2026. No macro, syntax, notation, axiom, sorry.
-/
import Derived.Test.YtkcnedkgpinabaaChecked
import GoSem.Claim
import GoSem.ClaimJoined
import GoSem.ClaimMapViews
import Derived.JoinedTies
import Derived.KernelRfl
namespace Go.Proofs.Ytkcnedkgpinabaa
/- THE CELL 'sum', in the pinned program and in every row, IS THE sha256 OF THE DUMP (.gsa) THAT YtkcnedkgpinabaaProg.lean LOADS. Nothing in Lean hashes anything: it is a label: what it is worth is what the hold of that sum in a sandbox is worth. -/
noncomputable def Try.pinned : Pinned := { name := "ytkcnedkgpinabaa", sum := "5561c6e9a3dad13f829b9e8c92ef3069f7bb491496ac85dea943092447cf68b6", checked := Try.checked }
namespace Rows
def none {H : Type} : Left H := { results := [], args := [] }

/-- 'laws.FnExactOpsOn': WHATEVER THE INPUT: true; the input reads as it did. -/
def fnExactOpsOnSpec : ChangeSpec := { name := "fnExactOpsOn", fn := fun _ => fun
  | [d1, d2] => { results := [.lit (.bool true)], args := [d1, d2] }
  | _ => none }
def fnExactOpsOnRow : OpenClaim := { program := "ytkcnedkgpinabaa", sum := "5561c6e9a3dad13f829b9e8c92ef3069f7bb491496ac85dea943092447cf68b6", func := "loop.example/g01103/laws.FnExactOpsOn", spec := "fnExactOpsOn", apart := false }
def FnExactOpsOnSaid : Prop := fnExactOpsOnRow.holds Try.pinned (OpenSpec.ofChange fnExactOpsOnSpec)

/-- ITS FALSE NEIGHBOUR: 'it returns false'. Refute it at one input. -/
def fnExactOpsOnWrong : ChangeSpec := { name := "fnExactOpsOn", fn := fun _ => fun
  | [d1, d2] => { results := [.lit (.bool false)], args := [d1, d2] }
  | _ => none }
def FnExactOpsOnWrongFalsely : Prop := fnExactOpsOnRow.holds Try.pinned (OpenSpec.ofChange fnExactOpsOnWrong)

/-- 'laws.FnExactSplitOf': WHATEVER THE INPUT: true; the input reads as it did. -/
def fnExactSplitOfSpec : ChangeSpec := { name := "fnExactSplitOf", fn := fun _ => fun
  | [d1, d2] => { results := [.lit (.bool true)], args := [d1, d2] }
  | _ => none }
def fnExactSplitOfRow : OpenClaim := { program := "ytkcnedkgpinabaa", sum := "5561c6e9a3dad13f829b9e8c92ef3069f7bb491496ac85dea943092447cf68b6", func := "loop.example/g01103/laws.FnExactSplitOf", spec := "fnExactSplitOf", apart := false }
def FnExactSplitOfSaid : Prop := fnExactSplitOfRow.holds Try.pinned (OpenSpec.ofChange fnExactSplitOfSpec)

/-- ITS FALSE NEIGHBOUR: 'it returns false'. Refute it at one input. -/
def fnExactSplitOfWrong : ChangeSpec := { name := "fnExactSplitOf", fn := fun _ => fun
  | [d1, d2] => { results := [.lit (.bool false)], args := [d1, d2] }
  | _ => none }
def FnExactSplitOfWrongFalsely : Prop := fnExactSplitOfRow.holds Try.pinned (OpenSpec.ofChange fnExactSplitOfWrong)

/-- 'laws.FnExactIsPiecePlan': WHATEVER THE INPUT: true; the input reads as it did. -/
def fnExactIsPiecePlanSpec : ChangeSpec := { name := "fnExactIsPiecePlan", fn := fun _ => fun
  | [d1, d2] => { results := [.lit (.bool true)], args := [d1, d2] }
  | _ => none }
def fnExactIsPiecePlanRow : OpenClaim := { program := "ytkcnedkgpinabaa", sum := "5561c6e9a3dad13f829b9e8c92ef3069f7bb491496ac85dea943092447cf68b6", func := "loop.example/g01103/laws.FnExactIsPiecePlan", spec := "fnExactIsPiecePlan", apart := false }
def FnExactIsPiecePlanSaid : Prop := fnExactIsPiecePlanRow.holds Try.pinned (OpenSpec.ofChange fnExactIsPiecePlanSpec)

/-- ITS FALSE NEIGHBOUR: 'it returns false'. Refute it at one input. -/
def fnExactIsPiecePlanWrong : ChangeSpec := { name := "fnExactIsPiecePlan", fn := fun _ => fun
  | [d1, d2] => { results := [.lit (.bool false)], args := [d1, d2] }
  | _ => none }
def FnExactIsPiecePlanWrongFalsely : Prop := fnExactIsPiecePlanRow.holds Try.pinned (OpenSpec.ofChange fnExactIsPiecePlanWrong)

/-- 'laws.FnExactIsAcyclic': WHATEVER THE INPUT: true; the input reads as it did. -/
def fnExactIsAcyclicSpec : ChangeSpec := { name := "fnExactIsAcyclic", fn := fun _ => fun
  | [d1, d2] => { results := [.lit (.bool true)], args := [d1, d2] }
  | _ => none }
def fnExactIsAcyclicRow : OpenClaim := { program := "ytkcnedkgpinabaa", sum := "5561c6e9a3dad13f829b9e8c92ef3069f7bb491496ac85dea943092447cf68b6", func := "loop.example/g01103/laws.FnExactIsAcyclic", spec := "fnExactIsAcyclic", unfollowed := true, recurses := true, apart := false }
def FnExactIsAcyclicSaid : Prop := fnExactIsAcyclicRow.holds Try.pinned (OpenSpec.ofChange fnExactIsAcyclicSpec)

/-- ITS FALSE NEIGHBOUR: 'it returns false'. Refute it at one input. -/
def fnExactIsAcyclicWrong : ChangeSpec := { name := "fnExactIsAcyclic", fn := fun _ => fun
  | [d1, d2] => { results := [.lit (.bool false)], args := [d1, d2] }
  | _ => none }
def FnExactIsAcyclicWrongFalsely : Prop := fnExactIsAcyclicRow.holds Try.pinned (OpenSpec.ofChange fnExactIsAcyclicWrong)

/-- 'laws.FnExactCriticalPart': WHATEVER THE INPUT: true; the input reads as it did. -/
def fnExactCriticalPartSpec : ChangeSpec := { name := "fnExactCriticalPart", fn := fun _ => fun
  | [d] => { results := [.lit (.bool true)], args := [d] }
  | _ => none }
def fnExactCriticalPartRow : OpenClaim := { program := "ytkcnedkgpinabaa", sum := "5561c6e9a3dad13f829b9e8c92ef3069f7bb491496ac85dea943092447cf68b6", func := "loop.example/g01103/laws.FnExactCriticalPart", spec := "fnExactCriticalPart", apart := false }
def FnExactCriticalPartSaid : Prop := fnExactCriticalPartRow.holds Try.pinned (OpenSpec.ofChange fnExactCriticalPartSpec)

/-- ITS FALSE NEIGHBOUR: 'it returns false'. Refute it at one input. -/
def fnExactCriticalPartWrong : ChangeSpec := { name := "fnExactCriticalPart", fn := fun _ => fun
  | [d] => { results := [.lit (.bool false)], args := [d] }
  | _ => none }
def FnExactCriticalPartWrongFalsely : Prop := fnExactCriticalPartRow.holds Try.pinned (OpenSpec.ofChange fnExactCriticalPartWrong)

/-- 'laws.FnExactValueOf': WHATEVER THE INPUT: true; the input reads as it did. -/
def fnExactValueOfSpec : ChangeSpec := { name := "fnExactValueOf", fn := fun _ => fun
  | [d1, d2, d3] => { results := [.lit (.bool true)], args := [d1, d2, d3] }
  | _ => none }
def fnExactValueOfRow : OpenClaim := { program := "ytkcnedkgpinabaa", sum := "5561c6e9a3dad13f829b9e8c92ef3069f7bb491496ac85dea943092447cf68b6", func := "loop.example/g01103/laws.FnExactValueOf", spec := "fnExactValueOf", apart := false }
def FnExactValueOfSaid : Prop := fnExactValueOfRow.holds Try.pinned (OpenSpec.ofChange fnExactValueOfSpec)

/-- ITS FALSE NEIGHBOUR: 'it returns false'. Refute it at one input. -/
def fnExactValueOfWrong : ChangeSpec := { name := "fnExactValueOf", fn := fun _ => fun
  | [d1, d2, d3] => { results := [.lit (.bool false)], args := [d1, d2, d3] }
  | _ => none }
def FnExactValueOfWrongFalsely : Prop := fnExactValueOfRow.holds Try.pinned (OpenSpec.ofChange fnExactValueOfWrong)

/-- 'laws.FnExactAppendRecord': WHATEVER THE INPUT: true; the input reads as it did. -/
def fnExactAppendRecordSpec : ChangeSpec := { name := "fnExactAppendRecord", fn := fun _ => fun
  | [d1, d2] => { results := [.lit (.bool true)], args := [d1, d2] }
  | _ => none }
def fnExactAppendRecordRow : OpenClaim := { program := "ytkcnedkgpinabaa", sum := "5561c6e9a3dad13f829b9e8c92ef3069f7bb491496ac85dea943092447cf68b6", func := "loop.example/g01103/laws.FnExactAppendRecord", spec := "fnExactAppendRecord", recurses := true, apart := false }
def FnExactAppendRecordSaid : Prop := fnExactAppendRecordRow.holds Try.pinned (OpenSpec.ofChange fnExactAppendRecordSpec)

/-- ITS FALSE NEIGHBOUR: 'it returns false'. Refute it at one input. -/
def fnExactAppendRecordWrong : ChangeSpec := { name := "fnExactAppendRecord", fn := fun _ => fun
  | [d1, d2] => { results := [.lit (.bool false)], args := [d1, d2] }
  | _ => none }
def FnExactAppendRecordWrongFalsely : Prop := fnExactAppendRecordRow.holds Try.pinned (OpenSpec.ofChange fnExactAppendRecordWrong)

/-- 'laws.FnExactSortingExchanges': WHATEVER THE INPUT: true; the input reads as it did. -/
def fnExactSortingExchangesSpec : ChangeSpec := { name := "fnExactSortingExchanges", fn := fun _ => fun
  | [d1, d2, d3] => { results := [.lit (.bool true)], args := [d1, d2, d3] }
  | _ => none }
def fnExactSortingExchangesRow : OpenClaim := { program := "ytkcnedkgpinabaa", sum := "5561c6e9a3dad13f829b9e8c92ef3069f7bb491496ac85dea943092447cf68b6", func := "loop.example/g01103/laws.FnExactSortingExchanges", spec := "fnExactSortingExchanges", apart := false }
def FnExactSortingExchangesSaid : Prop := fnExactSortingExchangesRow.holds Try.pinned (OpenSpec.ofChange fnExactSortingExchangesSpec)

/-- ITS FALSE NEIGHBOUR: 'it returns false'. Refute it at one input. -/
def fnExactSortingExchangesWrong : ChangeSpec := { name := "fnExactSortingExchanges", fn := fun _ => fun
  | [d1, d2, d3] => { results := [.lit (.bool false)], args := [d1, d2, d3] }
  | _ => none }
def FnExactSortingExchangesWrongFalsely : Prop := fnExactSortingExchangesRow.holds Try.pinned (OpenSpec.ofChange fnExactSortingExchangesWrong)

/-- 'laws.FnExactPointOf': WHATEVER THE INPUT: true; the input reads as it did. -/
def fnExactPointOfSpec : ChangeSpec := { name := "fnExactPointOf", fn := fun _ => fun
  | [d1, d2, d3, d4] => { results := [.lit (.bool true)], args := [d1, d2, d3, d4] }
  | _ => none }
def fnExactPointOfRow : OpenClaim := { program := "ytkcnedkgpinabaa", sum := "5561c6e9a3dad13f829b9e8c92ef3069f7bb491496ac85dea943092447cf68b6", func := "loop.example/g01103/laws.FnExactPointOf", spec := "fnExactPointOf", apart := false }
def FnExactPointOfSaid : Prop := fnExactPointOfRow.holds Try.pinned (OpenSpec.ofChange fnExactPointOfSpec)

/-- ITS FALSE NEIGHBOUR: 'it returns false'. Refute it at one input. -/
def fnExactPointOfWrong : ChangeSpec := { name := "fnExactPointOf", fn := fun _ => fun
  | [d1, d2, d3, d4] => { results := [.lit (.bool false)], args := [d1, d2, d3, d4] }
  | _ => none }
def FnExactPointOfWrongFalsely : Prop := fnExactPointOfRow.holds Try.pinned (OpenSpec.ofChange fnExactPointOfWrong)

/-- 'laws.FnExactUnitRank': WHATEVER THE INPUT: true; the input reads as it did. -/
def fnExactUnitRankSpec : ChangeSpec := { name := "fnExactUnitRank", fn := fun _ => fun
  | [d1, d2] => { results := [.lit (.bool true)], args := [d1, d2] }
  | _ => none }
def fnExactUnitRankRow : OpenClaim := { program := "ytkcnedkgpinabaa", sum := "5561c6e9a3dad13f829b9e8c92ef3069f7bb491496ac85dea943092447cf68b6", func := "loop.example/g01103/laws.FnExactUnitRank", spec := "fnExactUnitRank", unfollowed := true, recurses := true, apart := false }
def FnExactUnitRankSaid : Prop := fnExactUnitRankRow.holds Try.pinned (OpenSpec.ofChange fnExactUnitRankSpec)

/-- ITS FALSE NEIGHBOUR: 'it returns false'. Refute it at one input. -/
def fnExactUnitRankWrong : ChangeSpec := { name := "fnExactUnitRank", fn := fun _ => fun
  | [d1, d2] => { results := [.lit (.bool false)], args := [d1, d2] }
  | _ => none }
def FnExactUnitRankWrongFalsely : Prop := fnExactUnitRankRow.holds Try.pinned (OpenSpec.ofChange fnExactUnitRankWrong)

/-- 'laws.FnJohnson': WHATEVER THE INPUT: true; the input reads as it did. -/
def fnJohnsonSpec : ChangeSpec := { name := "fnJohnson", fn := fun _ => fun
  | [d] => { results := [.lit (.bool true)], args := [d] }
  | _ => none }
def fnJohnsonRow : OpenClaim := { program := "ytkcnedkgpinabaa", sum := "5561c6e9a3dad13f829b9e8c92ef3069f7bb491496ac85dea943092447cf68b6", func := "loop.example/g01103/laws.FnJohnson", spec := "fnJohnson", unfollowed := true, recurses := true, apart := false }
def FnJohnsonSaid : Prop := fnJohnsonRow.holds Try.pinned (OpenSpec.ofChange fnJohnsonSpec)

/-- ITS FALSE NEIGHBOUR: 'it returns false'. Refute it at one input. -/
def fnJohnsonWrong : ChangeSpec := { name := "fnJohnson", fn := fun _ => fun
  | [d] => { results := [.lit (.bool false)], args := [d] }
  | _ => none }
def FnJohnsonWrongFalsely : Prop := fnJohnsonRow.holds Try.pinned (OpenSpec.ofChange fnJohnsonWrong)

/-- 'laws.FnExactLogRecords': WHATEVER THE INPUT: true; the input reads as it did. -/
def fnExactLogRecordsSpec : ChangeSpec := { name := "fnExactLogRecords", fn := fun _ => fun
  | [d] => { results := [.lit (.bool true)], args := [d] }
  | _ => none }
def fnExactLogRecordsRow : OpenClaim := { program := "ytkcnedkgpinabaa", sum := "5561c6e9a3dad13f829b9e8c92ef3069f7bb491496ac85dea943092447cf68b6", func := "loop.example/g01103/laws.FnExactLogRecords", spec := "fnExactLogRecords", recurses := true, apart := false }
def FnExactLogRecordsSaid : Prop := fnExactLogRecordsRow.holds Try.pinned (OpenSpec.ofChange fnExactLogRecordsSpec)

/-- ITS FALSE NEIGHBOUR: 'it returns false'. Refute it at one input. -/
def fnExactLogRecordsWrong : ChangeSpec := { name := "fnExactLogRecords", fn := fun _ => fun
  | [d] => { results := [.lit (.bool false)], args := [d] }
  | _ => none }
def FnExactLogRecordsWrongFalsely : Prop := fnExactLogRecordsRow.holds Try.pinned (OpenSpec.ofChange fnExactLogRecordsWrong)

/- THE SECOND FORM. 'bulk': how many values and letters a reading holds, each counted each time it is reached (what is shared counts as often as it is met; a slice's spare places count too). A statement '..UptoSaid' is the law's where the arguments, and the package variables that the reading takes, are together of bulk at most 1048576: NARROWER than '..Said'. Prove '..Said' where nothing that the law and all that it calls make is longer than what came in: it says more and counts as full. Else prove '..UptoSaid'. A law counts once. -/
mutual
def uptoBulk {H : Type} : DataW H → Nat
  | .lit (.string bytes) => bytes.length + 1
  | .lit _ => 1
  | .nil => 1
  | .ptr d => uptoBulk d + 1
  | .slice elems spare => uptoBulkAll elems + uptoBulkAll spare + 1
  | .agg parts => uptoBulkAll parts + 1
  | .iface _ d => uptoBulk d + 1
  | .map entries => uptoBulkEntries entries + 1
  | .held _ => 1
def uptoBulkAll {H : Type} : List (DataW H) → Nat
  | [] => 0
  | d :: r => uptoBulk d + uptoBulkAll r
def uptoBulkEntries {H : Type} : List (Lit × DataW H) → Nat
  | [] => 0
  | x :: r => uptoBulkEntry x + uptoBulkEntries r
def uptoBulkEntry {H : Type} : Lit × DataW H → Nat
  | (.string bytes, d) => bytes.length + uptoBulk d + 1
  | (_, d) => uptoBulk d + 1
 end
def uptoSmall : (H : Type) → List (DataW H) → Bool := fun _ ds => decide (uptoBulkAll ds ≤ 1048576)
def OpenSpec.upto (s : _root_.Go.ChangeSpec) : _root_.Go.OpenSpec := { _root_.Go.OpenSpec.ofChange s with cond := some uptoSmall }

/-- 'laws.FnExactOpsOn', WHERE WHAT IT READS IS OF BULK AT MOST 1048576: true; the input reads as it did. -/
def fnExactOpsOnUptoRow : OpenClaim := { program := "ytkcnedkgpinabaa", sum := "5561c6e9a3dad13f829b9e8c92ef3069f7bb491496ac85dea943092447cf68b6", func := "loop.example/g01103/laws.FnExactOpsOn", spec := "fnExactOpsOn", apart := false, narrowed := true }
def FnExactOpsOnUptoSaid : Prop := fnExactOpsOnUptoRow.holds Try.pinned (OpenSpec.upto fnExactOpsOnSpec)

/-- 'laws.FnExactSplitOf', WHERE WHAT IT READS IS OF BULK AT MOST 1048576: true; the input reads as it did. -/
def fnExactSplitOfUptoRow : OpenClaim := { program := "ytkcnedkgpinabaa", sum := "5561c6e9a3dad13f829b9e8c92ef3069f7bb491496ac85dea943092447cf68b6", func := "loop.example/g01103/laws.FnExactSplitOf", spec := "fnExactSplitOf", apart := false, narrowed := true }
def FnExactSplitOfUptoSaid : Prop := fnExactSplitOfUptoRow.holds Try.pinned (OpenSpec.upto fnExactSplitOfSpec)

/-- 'laws.FnExactIsPiecePlan', WHERE WHAT IT READS IS OF BULK AT MOST 1048576: true; the input reads as it did. -/
def fnExactIsPiecePlanUptoRow : OpenClaim := { program := "ytkcnedkgpinabaa", sum := "5561c6e9a3dad13f829b9e8c92ef3069f7bb491496ac85dea943092447cf68b6", func := "loop.example/g01103/laws.FnExactIsPiecePlan", spec := "fnExactIsPiecePlan", apart := false, narrowed := true }
def FnExactIsPiecePlanUptoSaid : Prop := fnExactIsPiecePlanUptoRow.holds Try.pinned (OpenSpec.upto fnExactIsPiecePlanSpec)

/-- 'laws.FnExactIsAcyclic', WHERE WHAT IT READS IS OF BULK AT MOST 1048576: true; the input reads as it did. -/
def fnExactIsAcyclicUptoRow : OpenClaim := { program := "ytkcnedkgpinabaa", sum := "5561c6e9a3dad13f829b9e8c92ef3069f7bb491496ac85dea943092447cf68b6", func := "loop.example/g01103/laws.FnExactIsAcyclic", spec := "fnExactIsAcyclic", unfollowed := true, recurses := true, apart := false, narrowed := true }
def FnExactIsAcyclicUptoSaid : Prop := fnExactIsAcyclicUptoRow.holds Try.pinned (OpenSpec.upto fnExactIsAcyclicSpec)

/-- 'laws.FnExactCriticalPart', WHERE WHAT IT READS IS OF BULK AT MOST 1048576: true; the input reads as it did. -/
def fnExactCriticalPartUptoRow : OpenClaim := { program := "ytkcnedkgpinabaa", sum := "5561c6e9a3dad13f829b9e8c92ef3069f7bb491496ac85dea943092447cf68b6", func := "loop.example/g01103/laws.FnExactCriticalPart", spec := "fnExactCriticalPart", apart := false, narrowed := true }
def FnExactCriticalPartUptoSaid : Prop := fnExactCriticalPartUptoRow.holds Try.pinned (OpenSpec.upto fnExactCriticalPartSpec)

/-- 'laws.FnExactValueOf', WHERE WHAT IT READS IS OF BULK AT MOST 1048576: true; the input reads as it did. -/
def fnExactValueOfUptoRow : OpenClaim := { program := "ytkcnedkgpinabaa", sum := "5561c6e9a3dad13f829b9e8c92ef3069f7bb491496ac85dea943092447cf68b6", func := "loop.example/g01103/laws.FnExactValueOf", spec := "fnExactValueOf", apart := false, narrowed := true }
def FnExactValueOfUptoSaid : Prop := fnExactValueOfUptoRow.holds Try.pinned (OpenSpec.upto fnExactValueOfSpec)

/-- 'laws.FnExactAppendRecord', WHERE WHAT IT READS IS OF BULK AT MOST 1048576: true; the input reads as it did. -/
def fnExactAppendRecordUptoRow : OpenClaim := { program := "ytkcnedkgpinabaa", sum := "5561c6e9a3dad13f829b9e8c92ef3069f7bb491496ac85dea943092447cf68b6", func := "loop.example/g01103/laws.FnExactAppendRecord", spec := "fnExactAppendRecord", recurses := true, apart := false, narrowed := true }
def FnExactAppendRecordUptoSaid : Prop := fnExactAppendRecordUptoRow.holds Try.pinned (OpenSpec.upto fnExactAppendRecordSpec)

/-- 'laws.FnExactSortingExchanges', WHERE WHAT IT READS IS OF BULK AT MOST 1048576: true; the input reads as it did. -/
def fnExactSortingExchangesUptoRow : OpenClaim := { program := "ytkcnedkgpinabaa", sum := "5561c6e9a3dad13f829b9e8c92ef3069f7bb491496ac85dea943092447cf68b6", func := "loop.example/g01103/laws.FnExactSortingExchanges", spec := "fnExactSortingExchanges", apart := false, narrowed := true }
def FnExactSortingExchangesUptoSaid : Prop := fnExactSortingExchangesUptoRow.holds Try.pinned (OpenSpec.upto fnExactSortingExchangesSpec)

/-- 'laws.FnExactPointOf', WHERE WHAT IT READS IS OF BULK AT MOST 1048576: true; the input reads as it did. -/
def fnExactPointOfUptoRow : OpenClaim := { program := "ytkcnedkgpinabaa", sum := "5561c6e9a3dad13f829b9e8c92ef3069f7bb491496ac85dea943092447cf68b6", func := "loop.example/g01103/laws.FnExactPointOf", spec := "fnExactPointOf", apart := false, narrowed := true }
def FnExactPointOfUptoSaid : Prop := fnExactPointOfUptoRow.holds Try.pinned (OpenSpec.upto fnExactPointOfSpec)

/-- 'laws.FnExactUnitRank', WHERE WHAT IT READS IS OF BULK AT MOST 1048576: true; the input reads as it did. -/
def fnExactUnitRankUptoRow : OpenClaim := { program := "ytkcnedkgpinabaa", sum := "5561c6e9a3dad13f829b9e8c92ef3069f7bb491496ac85dea943092447cf68b6", func := "loop.example/g01103/laws.FnExactUnitRank", spec := "fnExactUnitRank", unfollowed := true, recurses := true, apart := false, narrowed := true }
def FnExactUnitRankUptoSaid : Prop := fnExactUnitRankUptoRow.holds Try.pinned (OpenSpec.upto fnExactUnitRankSpec)

/-- 'laws.FnJohnson', WHERE WHAT IT READS IS OF BULK AT MOST 1048576: true; the input reads as it did. -/
def fnJohnsonUptoRow : OpenClaim := { program := "ytkcnedkgpinabaa", sum := "5561c6e9a3dad13f829b9e8c92ef3069f7bb491496ac85dea943092447cf68b6", func := "loop.example/g01103/laws.FnJohnson", spec := "fnJohnson", unfollowed := true, recurses := true, apart := false, narrowed := true }
def FnJohnsonUptoSaid : Prop := fnJohnsonUptoRow.holds Try.pinned (OpenSpec.upto fnJohnsonSpec)

/-- 'laws.FnExactLogRecords', WHERE WHAT IT READS IS OF BULK AT MOST 1048576: true; the input reads as it did. -/
def fnExactLogRecordsUptoRow : OpenClaim := { program := "ytkcnedkgpinabaa", sum := "5561c6e9a3dad13f829b9e8c92ef3069f7bb491496ac85dea943092447cf68b6", func := "loop.example/g01103/laws.FnExactLogRecords", spec := "fnExactLogRecords", recurses := true, apart := false, narrowed := true }
def FnExactLogRecordsUptoSaid : Prop := fnExactLogRecordsUptoRow.holds Try.pinned (OpenSpec.upto fnExactLogRecordsSpec)

end Rows
end Go.Proofs.Ytkcnedkgpinabaa
