/-
  No cell of these rows narrows 'for every input' (looked for: loops, veiled, ifaces, maps, wideKeys, modest, calm, conditions, laid).
  DERIVED. THE GIVEN ROWS OF THIS SEAT. 4 by the template 'for every input the law returns true; each argument reads behind the call as it read before'; 0 by the template 'total and deterministic' (their statements: YtoagdnojoodloaaTotals.lean).
  GIVEN WITH THE SEED: the statements are not yours to turn. If you find one false, say at which input.
  Laid BY PROGRAM, IN A SANDBOX (cutbox-rows.mjs): the forced cells as the released guide's own fill.sh prints them over the translation 9bd978da05f497cd… (all of the seat's roots in one cut). By AI agents, Wed Nov 11 2026. No macro, syntax, notation, axiom, sorry.
-/
import Derived.Test.YtoagdnojoodloaaChecked
import GoSem.Claim
import GoSem.ClaimJoined
import GoSem.ClaimMapViews
import Derived.JoinedTies
import Derived.KernelRfl
namespace Go.Proofs.Ytoagdnojoodloaa
/- THE CELL 'sum', in the pinned program and in every row, IS THE sha256 OF THE DUMP (.gsa) THAT YtoagdnojoodloaaProg.lean LOADS. Nothing in Lean hashes anything: it is a label: what it is worth is what the hold of that sum in a sandbox is worth. -/
noncomputable def Try.pinned : Pinned := { name := "ytoagdnojoodloaa", sum := "9bd978da05f497cd07079a0a2b07ca02e50450a022b1e2ccb703dc83ab8ecc79", checked := Try.checked }
namespace Rows
def none {H : Type} : Left H := { results := [], args := [] }

/-- 'laws.FnExactIsBestOrder': WHATEVER THE INPUT: true; the input reads as it did. -/
def fnExactIsBestOrderSpec : ChangeSpec := { name := "fnExactIsBestOrder", fn := fun _ => fun
  | [d1, d2, d3] => { results := [.lit (.bool true)], args := [d1, d2, d3] }
  | _ => none }
def fnExactIsBestOrderRow : OpenClaim := { program := "ytoagdnojoodloaa", sum := "9bd978da05f497cd07079a0a2b07ca02e50450a022b1e2ccb703dc83ab8ecc79", func := "loop.example/g01103/laws.FnExactIsBestOrder", spec := "fnExactIsBestOrder", unfollowed := true, recurses := true, apart := false }
def FnExactIsBestOrderSaid : Prop := fnExactIsBestOrderRow.holds Try.pinned (OpenSpec.ofChange fnExactIsBestOrderSpec)

/-- ITS FALSE NEIGHBOUR: 'it returns false'. Refute it at one input. -/
def fnExactIsBestOrderWrong : ChangeSpec := { name := "fnExactIsBestOrder", fn := fun _ => fun
  | [d1, d2, d3] => { results := [.lit (.bool false)], args := [d1, d2, d3] }
  | _ => none }
def FnExactIsBestOrderWrongFalsely : Prop := fnExactIsBestOrderRow.holds Try.pinned (OpenSpec.ofChange fnExactIsBestOrderWrong)

/-- 'laws.FnExactSplitGain': WHATEVER THE INPUT: true; the input reads as it did. -/
def fnExactSplitGainSpec : ChangeSpec := { name := "fnExactSplitGain", fn := fun _ => fun
  | [d1, d2] => { results := [.lit (.bool true)], args := [d1, d2] }
  | _ => none }
def fnExactSplitGainRow : OpenClaim := { program := "ytoagdnojoodloaa", sum := "9bd978da05f497cd07079a0a2b07ca02e50450a022b1e2ccb703dc83ab8ecc79", func := "loop.example/g01103/laws.FnExactSplitGain", spec := "fnExactSplitGain", unfollowed := true, recurses := true, apart := false }
def FnExactSplitGainSaid : Prop := fnExactSplitGainRow.holds Try.pinned (OpenSpec.ofChange fnExactSplitGainSpec)

/-- ITS FALSE NEIGHBOUR: 'it returns false'. Refute it at one input. -/
def fnExactSplitGainWrong : ChangeSpec := { name := "fnExactSplitGain", fn := fun _ => fun
  | [d1, d2] => { results := [.lit (.bool false)], args := [d1, d2] }
  | _ => none }
def FnExactSplitGainWrongFalsely : Prop := fnExactSplitGainRow.holds Try.pinned (OpenSpec.ofChange fnExactSplitGainWrong)

/-- 'laws.FnExactDispatchGap': WHATEVER THE INPUT: true; the input reads as it did. -/
def fnExactDispatchGapSpec : ChangeSpec := { name := "fnExactDispatchGap", fn := fun _ => fun
  | [d1, d2] => { results := [.lit (.bool true)], args := [d1, d2] }
  | _ => none }
def fnExactDispatchGapRow : OpenClaim := { program := "ytoagdnojoodloaa", sum := "9bd978da05f497cd07079a0a2b07ca02e50450a022b1e2ccb703dc83ab8ecc79", func := "loop.example/g01103/laws.FnExactDispatchGap", spec := "fnExactDispatchGap", unfollowed := true, recurses := true, apart := false }
def FnExactDispatchGapSaid : Prop := fnExactDispatchGapRow.holds Try.pinned (OpenSpec.ofChange fnExactDispatchGapSpec)

/-- ITS FALSE NEIGHBOUR: 'it returns false'. Refute it at one input. -/
def fnExactDispatchGapWrong : ChangeSpec := { name := "fnExactDispatchGap", fn := fun _ => fun
  | [d1, d2] => { results := [.lit (.bool false)], args := [d1, d2] }
  | _ => none }
def FnExactDispatchGapWrongFalsely : Prop := fnExactDispatchGapRow.holds Try.pinned (OpenSpec.ofChange fnExactDispatchGapWrong)

/-- 'laws.FnExactGreatestRegret': WHATEVER THE INPUT: true; the input reads as it did. -/
def fnExactGreatestRegretSpec : ChangeSpec := { name := "fnExactGreatestRegret", fn := fun _ => fun
  | [d1, d2, d3] => { results := [.lit (.bool true)], args := [d1, d2, d3] }
  | _ => none }
def fnExactGreatestRegretRow : OpenClaim := { program := "ytoagdnojoodloaa", sum := "9bd978da05f497cd07079a0a2b07ca02e50450a022b1e2ccb703dc83ab8ecc79", func := "loop.example/g01103/laws.FnExactGreatestRegret", spec := "fnExactGreatestRegret", unfollowed := true, recurses := true, apart := false }
def FnExactGreatestRegretSaid : Prop := fnExactGreatestRegretRow.holds Try.pinned (OpenSpec.ofChange fnExactGreatestRegretSpec)

/-- ITS FALSE NEIGHBOUR: 'it returns false'. Refute it at one input. -/
def fnExactGreatestRegretWrong : ChangeSpec := { name := "fnExactGreatestRegret", fn := fun _ => fun
  | [d1, d2, d3] => { results := [.lit (.bool false)], args := [d1, d2, d3] }
  | _ => none }
def FnExactGreatestRegretWrongFalsely : Prop := fnExactGreatestRegretRow.holds Try.pinned (OpenSpec.ofChange fnExactGreatestRegretWrong)

/- THE SECOND FORM. 'bulk': how many values and letters a reading holds, each counted each time it is reached (what is shared counts as often as it is met; a slice's spare places count too). A statement '..UptoSaid' is the law's where the arguments, and the package variables that the reading takes, are together of bulk at most 1048576: NARROWER than '..Said'. Prove '..Said' where nothing that the law and all that it calls make is longer than what came in: it says more and counts as full. Else prove '..UptoSaid'. A law counts once. -/
mutual
def uptoBulk {H : Type} : DataW H → Nat
  | .lit (.string bytes) => bytes.length + 1
  | .lit _ => 1
  | .nil => 1
  | .ptr d => uptoBulk d + 1
  | .slice elems spare => uptoBulkAll elems + uptoBulkAll spare + 1
  | .agg parts => uptoBulkAll parts + 1
  | .iface _ d => uptoBulk d + 1
  | .map entries => uptoBulkEntries entries + 1
  | .held _ => 1
def uptoBulkAll {H : Type} : List (DataW H) → Nat
  | [] => 0
  | d :: r => uptoBulk d + uptoBulkAll r
def uptoBulkEntries {H : Type} : List (Lit × DataW H) → Nat
  | [] => 0
  | x :: r => uptoBulkEntry x + uptoBulkEntries r
def uptoBulkEntry {H : Type} : Lit × DataW H → Nat
  | (.string bytes, d) => bytes.length + uptoBulk d + 1
  | (_, d) => uptoBulk d + 1
 end
def uptoSmall : (H : Type) → List (DataW H) → Bool := fun _ ds => decide (uptoBulkAll ds ≤ 1048576)
def OpenSpec.upto (s : _root_.Go.ChangeSpec) : _root_.Go.OpenSpec := { _root_.Go.OpenSpec.ofChange s with cond := some uptoSmall }

/-- 'laws.FnExactIsBestOrder', WHERE WHAT IT READS IS OF BULK AT MOST 1048576: true; the input reads as it did. -/
def fnExactIsBestOrderUptoRow : OpenClaim := { program := "ytoagdnojoodloaa", sum := "9bd978da05f497cd07079a0a2b07ca02e50450a022b1e2ccb703dc83ab8ecc79", func := "loop.example/g01103/laws.FnExactIsBestOrder", spec := "fnExactIsBestOrder", unfollowed := true, recurses := true, apart := false, narrowed := true }
def FnExactIsBestOrderUptoSaid : Prop := fnExactIsBestOrderUptoRow.holds Try.pinned (OpenSpec.upto fnExactIsBestOrderSpec)

/-- 'laws.FnExactSplitGain', WHERE WHAT IT READS IS OF BULK AT MOST 1048576: true; the input reads as it did. -/
def fnExactSplitGainUptoRow : OpenClaim := { program := "ytoagdnojoodloaa", sum := "9bd978da05f497cd07079a0a2b07ca02e50450a022b1e2ccb703dc83ab8ecc79", func := "loop.example/g01103/laws.FnExactSplitGain", spec := "fnExactSplitGain", unfollowed := true, recurses := true, apart := false, narrowed := true }
def FnExactSplitGainUptoSaid : Prop := fnExactSplitGainUptoRow.holds Try.pinned (OpenSpec.upto fnExactSplitGainSpec)

/-- 'laws.FnExactDispatchGap', WHERE WHAT IT READS IS OF BULK AT MOST 1048576: true; the input reads as it did. -/
def fnExactDispatchGapUptoRow : OpenClaim := { program := "ytoagdnojoodloaa", sum := "9bd978da05f497cd07079a0a2b07ca02e50450a022b1e2ccb703dc83ab8ecc79", func := "loop.example/g01103/laws.FnExactDispatchGap", spec := "fnExactDispatchGap", unfollowed := true, recurses := true, apart := false, narrowed := true }
def FnExactDispatchGapUptoSaid : Prop := fnExactDispatchGapUptoRow.holds Try.pinned (OpenSpec.upto fnExactDispatchGapSpec)

/-- 'laws.FnExactGreatestRegret', WHERE WHAT IT READS IS OF BULK AT MOST 1048576: true; the input reads as it did. -/
def fnExactGreatestRegretUptoRow : OpenClaim := { program := "ytoagdnojoodloaa", sum := "9bd978da05f497cd07079a0a2b07ca02e50450a022b1e2ccb703dc83ab8ecc79", func := "loop.example/g01103/laws.FnExactGreatestRegret", spec := "fnExactGreatestRegret", unfollowed := true, recurses := true, apart := false, narrowed := true }
def FnExactGreatestRegretUptoSaid : Prop := fnExactGreatestRegretUptoRow.holds Try.pinned (OpenSpec.upto fnExactGreatestRegretSpec)

end Rows
end Go.Proofs.Ytoagdnojoodloaa
