/-
  No cell of these rows narrows 'for every input' (looked for: loops, veiled, ifaces, maps, wideKeys, modest, calm, conditions, laid).
  DERIVED. THE GIVEN ROWS OF THIS SEAT. 2 by the template 'for every input the law returns true; each argument reads behind the call as it read before'; 0 by the template 'total and deterministic' (their statements: YteifefecoaefnaaTotals.lean).
  GIVEN WITH THE SEED: the statements are not yours to turn. If you find one false, say at which input.
  Laid BY PROGRAM, IN A SANDBOX (cutbox-rows.mjs): the forced cells as the released guide's own fill.sh prints them over the translation 069fb792a42f0a37… (all of the seat's roots in one cut). By AI agents, Wed Nov 11 2026. No macro, syntax, notation, axiom, sorry.
-/
import Derived.Test.YteifefecoaefnaaChecked
import GoSem.Claim
import GoSem.ClaimJoined
import GoSem.ClaimMapViews
import Derived.JoinedTies
import Derived.KernelRfl
namespace Go.Proofs.Yteifefecoaefnaa
/- THE CELL 'sum', in the pinned program and in every row, IS THE sha256 OF THE DUMP (.gsa) THAT YteifefecoaefnaaProg.lean LOADS. Nothing in Lean hashes anything: it is a label: what it is worth is what the hold of that sum in a sandbox is worth. -/
noncomputable def Try.pinned : Pinned := { name := "yteifefecoaefnaa", sum := "069fb792a42f0a379c7544326121148f1c74e2e815b3c28d5f9ebe591119b078", checked := Try.checked }
namespace Rows
def none {H : Type} : Left H := { results := [], args := [] }

/-- 'laws.FnExactLongerWith': WHATEVER THE INPUT: true; the input reads as it did. -/
def fnExactLongerWithSpec : ChangeSpec := { name := "fnExactLongerWith", fn := fun _ => fun
  | [d1, d2, d3, d4] => { results := [.lit (.bool true)], args := [d1, d2, d3, d4] }
  | _ => none }
def fnExactLongerWithRow : OpenClaim := { program := "yteifefecoaefnaa", sum := "069fb792a42f0a379c7544326121148f1c74e2e815b3c28d5f9ebe591119b078", func := "loop.example/g01103/laws.FnExactLongerWith", spec := "fnExactLongerWith", unfollowed := true, recurses := true, apart := false }
def FnExactLongerWithSaid : Prop := fnExactLongerWithRow.holds Try.pinned (OpenSpec.ofChange fnExactLongerWithSpec)

/-- ITS FALSE NEIGHBOUR: 'it returns false'. Refute it at one input. -/
def fnExactLongerWithWrong : ChangeSpec := { name := "fnExactLongerWith", fn := fun _ => fun
  | [d1, d2, d3, d4] => { results := [.lit (.bool false)], args := [d1, d2, d3, d4] }
  | _ => none }
def FnExactLongerWithWrongFalsely : Prop := fnExactLongerWithRow.holds Try.pinned (OpenSpec.ofChange fnExactLongerWithWrong)

/-- 'laws.FnExactLongerWithout': WHATEVER THE INPUT: true; the input reads as it did. -/
def fnExactLongerWithoutSpec : ChangeSpec := { name := "fnExactLongerWithout", fn := fun _ => fun
  | [d1, d2, d3, d4] => { results := [.lit (.bool true)], args := [d1, d2, d3, d4] }
  | _ => none }
def fnExactLongerWithoutRow : OpenClaim := { program := "yteifefecoaefnaa", sum := "069fb792a42f0a379c7544326121148f1c74e2e815b3c28d5f9ebe591119b078", func := "loop.example/g01103/laws.FnExactLongerWithout", spec := "fnExactLongerWithout", unfollowed := true, recurses := true, apart := false }
def FnExactLongerWithoutSaid : Prop := fnExactLongerWithoutRow.holds Try.pinned (OpenSpec.ofChange fnExactLongerWithoutSpec)

/-- ITS FALSE NEIGHBOUR: 'it returns false'. Refute it at one input. -/
def fnExactLongerWithoutWrong : ChangeSpec := { name := "fnExactLongerWithout", fn := fun _ => fun
  | [d1, d2, d3, d4] => { results := [.lit (.bool false)], args := [d1, d2, d3, d4] }
  | _ => none }
def FnExactLongerWithoutWrongFalsely : Prop := fnExactLongerWithoutRow.holds Try.pinned (OpenSpec.ofChange fnExactLongerWithoutWrong)

/- THE SECOND FORM. 'bulk': how many values and letters a reading holds, each counted each time it is reached (what is shared counts as often as it is met; a slice's spare places count too). A statement '..UptoSaid' is the law's where the arguments, and the package variables that the reading takes, are together of bulk at most 1048576: NARROWER than '..Said'. Prove '..Said' where nothing that the law and all that it calls make is longer than what came in: it says more and counts as full. Else prove '..UptoSaid'. A law counts once. -/
mutual
def uptoBulk {H : Type} : DataW H → Nat
  | .lit (.string bytes) => bytes.length + 1
  | .lit _ => 1
  | .nil => 1
  | .ptr d => uptoBulk d + 1
  | .slice elems spare => uptoBulkAll elems + uptoBulkAll spare + 1
  | .agg parts => uptoBulkAll parts + 1
  | .iface _ d => uptoBulk d + 1
  | .map entries => uptoBulkEntries entries + 1
  | .held _ => 1
def uptoBulkAll {H : Type} : List (DataW H) → Nat
  | [] => 0
  | d :: r => uptoBulk d + uptoBulkAll r
def uptoBulkEntries {H : Type} : List (Lit × DataW H) → Nat
  | [] => 0
  | x :: r => uptoBulkEntry x + uptoBulkEntries r
def uptoBulkEntry {H : Type} : Lit × DataW H → Nat
  | (.string bytes, d) => bytes.length + uptoBulk d + 1
  | (_, d) => uptoBulk d + 1
 end
def uptoSmall : (H : Type) → List (DataW H) → Bool := fun _ ds => decide (uptoBulkAll ds ≤ 1048576)
def OpenSpec.upto (s : _root_.Go.ChangeSpec) : _root_.Go.OpenSpec := { _root_.Go.OpenSpec.ofChange s with cond := some uptoSmall }

/-- 'laws.FnExactLongerWith', WHERE WHAT IT READS IS OF BULK AT MOST 1048576: true; the input reads as it did. -/
def fnExactLongerWithUptoRow : OpenClaim := { program := "yteifefecoaefnaa", sum := "069fb792a42f0a379c7544326121148f1c74e2e815b3c28d5f9ebe591119b078", func := "loop.example/g01103/laws.FnExactLongerWith", spec := "fnExactLongerWith", unfollowed := true, recurses := true, apart := false, narrowed := true }
def FnExactLongerWithUptoSaid : Prop := fnExactLongerWithUptoRow.holds Try.pinned (OpenSpec.upto fnExactLongerWithSpec)

/-- 'laws.FnExactLongerWithout', WHERE WHAT IT READS IS OF BULK AT MOST 1048576: true; the input reads as it did. -/
def fnExactLongerWithoutUptoRow : OpenClaim := { program := "yteifefecoaefnaa", sum := "069fb792a42f0a379c7544326121148f1c74e2e815b3c28d5f9ebe591119b078", func := "loop.example/g01103/laws.FnExactLongerWithout", spec := "fnExactLongerWithout", unfollowed := true, recurses := true, apart := false, narrowed := true }
def FnExactLongerWithoutUptoSaid : Prop := fnExactLongerWithoutUptoRow.holds Try.pinned (OpenSpec.upto fnExactLongerWithoutSpec)

end Rows
end Go.Proofs.Yteifefecoaefnaa
