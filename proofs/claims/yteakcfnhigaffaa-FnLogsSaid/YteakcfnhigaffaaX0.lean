-- Written by a program of this session (wip/gen/xp.py, over the kit's printer). Not trusted: Lean checks it.
import Derived.Test.YteakcfnhigaffaaProg
import Derived.LoopN
import Derived.StillTailTactics
import Derived.Laws.CopyOwn
import Derived.Below
import Derived.Deep.Draws
import Derived.Deep.AppendLies
import Derived.Maps.AppendAt
import Derived.OwnWalk
import Derived.Laws.BytesArg
import Derived.Laws.MakeOwn
import Derived.Laws.OwnMore
import Derived.Deep.OwnRows
import Derived.Tactics
import Derived.Lib.ConvBytes
import Derived.Laws.Slices
import Derived.WalkKit
import Derived.KernelRfl
import Derived.RowKit3
import Derived.Deep.LoopGhost
import Derived.Deep.QuietTactic
import Derived.BigQuiet
import Derived.WideLaws
import Derived.Deep.DeepCutAuto
import Derived.Deep.CutBlock
import Derived.Deep.RegionHeld3
import Derived.Laws.Rows
import Derived.Lib.AppendStr
import Derived.ArgAppend
import Derived.Laws.IdiomCopy
import Derived.OrdersHeld
import Derived.Laws.BitsLemmas
import Derived.RowKit
import Derived.Test.YteakcfnhigaffaaWWords
import Derived.Test.YteakcfnhigaffaaWLast
import Derived.Test.YteakcfnhigaffaaWTab
import Derived.Test.YteakcfnhigaffaaWFour
import Derived.Test.YteakcfnhigaffaaWQPut
import Derived.Test.YteakcfnhigaffaaWApart
import Derived.Test.YteakcfnhigaffaaWArr
import Derived.Test.YteakcfnhigaffaaWZeros
import Derived.Test.YteakcfnhigaffaaWFoot
import Derived.Test.YteakcfnhigaffaaWKept
import Derived.Test.YteakcfnhigaffaaWShare
import Derived.Test.YteakcfnhigaffaaWN
import Derived.Test.YteakcfnhigaffaaWFootNe
import Derived.Test.YteakcfnhigaffaaWAt
import Derived.Test.YteakcfnhigaffaaWEqStruct
import Derived.Test.YteakcfnhigaffaaWRepsOne
import Derived.Test.YteakcfnhigaffaaWInv
import Derived.Test.YteakcfnhigaffaaWInvWords
import Derived.Test.YteakcfnhigaffaaWGuard
import Derived.Test.YteakcfnhigaffaaWNEv
import Derived.Test.YteakcfnhigaffaaWMore
namespace Go.Proofs.Yteakcfnhigaffaa.X
open Go.RowKit Go.Proofs.YteakcfnhigaffaaW.PrintWords Go.Proofs.YteakcfnhigaffaaW.PrintLast Go.Proofs.YteakcfnhigaffaaW.PrintMore
attribute [local go_sem] max2_int min2_int max_two min_two max_three min_three max_four min_four   -- for this text's walks alone
set_option linter.unusedVariables false
set_option linter.unusedSimpArgs false



def errW : Option Int → Value
  | none => .nilIface
  | some c => .iface 0 (.int .i64 c)
theorem errW_none : errW none = .nilIface := rfl
theorem errW_some (c : Int) : errW (some c) = .iface 0 (.int .i64 c) := rfl

theorem info5 : (Try.prog.info? 5).map (fun i => (i.zero, i.size, i.bytes)) = some (some (.int .u8 0), 1, 1) := by kernel_rfl
theorem info9 : (Try.prog.info? 9).map (fun i => (i.zero, i.size, i.bytes)) = some (some (.string ⟨#[]⟩), 1, 16) := by kernel_rfl
theorem info25 : (Try.prog.info? 25).map (fun i => (i.zero, i.size, i.bytes)) = some (some (.agg #[(.string ⟨#[]⟩), (.string ⟨#[]⟩)]), 2, 32) := by kernel_rfl
-- the values' own types
structure S25 where
  f0 : ByteArray
  f1 : ByteArray
def z25 : S25 := ⟨(⟨#[]⟩ : ByteArray), (⟨#[]⟩ : ByteArray)⟩
def k25 : Kd S25 := Kd.iso (Kd.pair Kd.string Kd.string) (fun x : S25 => (x.f0, x.f1))
theorem k25_open {w : World} {x : S25} {cs : List Value} (h : k25.K w x cs) : cs = [.string x.f0, .string x.f1] := by
  obtain ⟨_, _, rfl, rfl, rfl⟩ := h
  exact rfl
theorem k25_mkM (w : World) (base : Nat) (ok : Nat → Prop) (x : S25)  : k25.M w base ok x [.string x.f0, .string x.f1] := ⟨[.string x.f0], [.string x.f1], rfl, rfl, rfl⟩
def rd_T25 (xs : List S25) (i : Int) : S25 := xs.getD i.toNat z25
theorem at_T25 {w : World} {A : Option Addr} {n : Nat} {xs : List S25} (h : Kd.C k25 w A n xs) (i : Int) (h0 : 0 ≤ i) (h1 : i < n) : ∃ ad , A = some ad ∧ w.cell? (ad.add (i.toNat * 2)) = some (.string (rd_T25 xs i).f0) ∧ w.cell? ⟨(ad.add (i.toNat * 2)).block, (ad.add (i.toNat * 2)).off + 1, none⟩ = some (.string (rd_T25 xs i).f1) := by
  obtain ⟨ad, c, e, _, hK, hc0⟩ := Kd.C_get h z25 i h0 h1
  have hc : ∀ j u, c[j]? = some u → w.cell? (ad.add (i.toNat * 2 + j)) = some u := hc0
  obtain rfl := k25_open hK
  exact ⟨ad, e, hc 0 _ rfl, by rw [← add_field _ _ 1 (by omega)]; exact hc 1 _ rfl⟩

theorem setCell_drewN (w : World) (n : Nat) (p : Addr) (v : Value) : (w.drewN n).setCell p v = (w.setCell p v).drewN n := by
  unfold World.setCell World.drewN
  rfl
theorem aq_ : (∀ (a : Act) (d : Tmp) (v : Value), a.put (some d) v = { a with tmps := a.tmps.setIfInBounds d v }) ∧ (∀ (a : Act) (v : Value), a.put none v = a) ∧ (∀ (l : List Value) (i : Nat) (v : Value), l.toArray.setIfInBounds i v = (l.set i v).toArray) ∧ (∀ (l : List Value) (u v : Value), (u :: l).set 0 v = v :: l) ∧ (∀ (l : List Value) (i : Nat) (u v : Value), (u :: l).set (i + 1) v = u :: l.set i v) ∧ (∀ n : Int, IntKind.i64.wrap n = wrap64 n) ∧ (∀ n : Int, IntKind.i32.wrap n = wrap32 n) :=
  ⟨fun _ _ _ => rfl, fun _ _ => rfl, fun _ _ _ => by simp, fun _ _ _ => rfl, fun _ _ _ _ => rfl, i64_w, i32_w⟩
/-- A world that came of another one by draws and new blocks alone (Nonempty: a class that is there). -/
structure BsP (w' w : World) : Prop where
  out : Below w.heap.size w w'
abbrev Bs (w' w : World) : Prop := Nonempty (BsP w' w)
instance bsR (w : World) : Bs w w := ⟨⟨Below.refl _ _⟩⟩
instance bsA (w' w : World) (o : Obj) [h : Bs w' w] : Bs (w'.alloc o) w := by
  obtain ⟨h⟩ := h
  exact ⟨⟨below_alloc h.out o⟩⟩
instance bsN (w' w : World) (n : Nat) [h : Bs w' w] : Bs (w'.drewN n) w := by
  obtain ⟨h⟩ := h
  exact ⟨⟨pw_below_drewN h.out n⟩⟩
instance bsD (w' w : World) [h : Bs w' w] : Bs w'.drew w := by
  obtain ⟨h⟩ := h
  exact ⟨⟨below_drew1 h.out⟩⟩
theorem bs {w' w : World} {g : Nat} {o : Obj} (h : w.heap[g]? = some o) [k : Bs w' w] : w'.heap[g]? = some o := by
  obtain ⟨k⟩ := k
  exact blk_below h k.out
theorem bw {v w' w : World} (h : Below v.heap.size v w) [k : Bs w' w] : Below v.heap.size v w' := by
  obtain ⟨k⟩ := k
  exact below_step h k.out
theorem bR {α : Type} {d : Kd α} {e base : Nat} {w' w : World} {ok : Nat → Prop} {v : Value} {xs : List α} (h : Kd.R d e w base ok v xs) [k : Bs w' w] : Kd.R d e w' base ok v xs := by
  obtain ⟨k⟩ := k
  exact Kd.R_below h k.out
theorem bset {w W : World} {g j : Nat} {v : Value} (h : Below w.heap.size w W) (hg : Aside0 (w.heap.size ≤ g) := by assumption) : Below w.heap.size w (W.setCell ⟨g, j, none⟩ v) := below_set h hg.out
theorem bA {w W : World} (h : Below w.heap.size w W) (o : Obj) : Below w.heap.size w (W.alloc o) := below_alloc h o
theorem bN {B : Nat} {w W : World} (h : Below B w W) (n : Nat) : Below B w (W.drewN n) := pw_below_drewN h n
theorem bD {B : Nat} {w W : World} (h : Below B w W) : Below B w W.drew := below_drew1 h
theorem skq_ {P : Program} {md : Region.Mode} {ops : Array Oper} {Q : Exit → Act → World → Prop} {S : World → Prop} {ds : List Nat} {fuel : Nat} {l : Array Bool} {a a' : Act} {w : World} {oi : Oper} (i : Nat) (N : Option Tmp) (hi : ops[i]? = some oi) (hN : oi.dst = N) (hc : anyB md ops l (l.setIfInBounds i true) i = true)
    (hQ : ∀ c a w, Q (.panic c) (a.put oi.dst undef) w → Q (.panic c) a w) (hw : Region.wanted oi (yielded ops a.tmps) = false) (ha : a.put N undef = a') (h : wpAnyLast P md ops Q S ds fuel (l.setIfInBounds i true) a' w) : wpAnyLast P md ops Q S ds (fuel + 1) l a w :=
  pure_ (i := i) (N := N) (v := undef) (l.setIfInBounds i true) hi hN hc hQ (Or.inr ⟨hw, rfl⟩) ha h
theorem skp_ {P : Program} {md : Region.Mode} {ops : Array Oper} {Q : Exit → Act → World → Prop} {S : World → Prop} {ds : List Nat} {fuel : Nat} {l : Array Bool} {a a' : Act} {w : World} {oi : Oper} {T : Bool × List (List Nat × List Nat)} (hT : Aside0 (rtab md ops = T)) (i : Nat) (N : Option Tmp) (hi : ops[i]? = some oi) (hN : oi.dst = N) (hc : anyT T l.toList (l.setIfInBounds i true).toList i = true)
    (hQ : ∀ c a w, Q (.panic c) (a.put oi.dst undef) w → Q (.panic c) a w) (hw : Region.wanted oi (yielded ops a.tmps) = false) (ha : a.put N undef = a') (h : wpAnyLast P md ops Q S ds fuel (l.setIfInBounds i true) a' w) : wpAnyLast P md ops Q S ds (fuel + 1) l a w :=
  skq_ i N hi hN (any_of hT.out hc) hQ hw ha h
theorem puq_ {P : Program} {md : Region.Mode} {ops : Array Oper} {Q : Exit → Act → World → Prop} {S : World → Prop} {ds : List Nat} {fuel : Nat} {l : Array Bool} {a : Act} {w : World} {oi : Oper} {v : Value} {i : Nat} {N : Option Tmp} (hi : ops[i]? = some oi) (hN : oi.dst = N) (hc : anyB md ops l (l.setIfInBounds i true) i = true)
    (hQ : ∀ c a w, Q (.panic c) (a.put oi.dst v) w → Q (.panic c) a w) (hy : Yields P ops oi v a) {a' : Act} (ha : a.put N v = a') (h : wpAnyLast P md ops Q S ds fuel (l.setIfInBounds i true) a' w) : wpAnyLast P md ops Q S ds (fuel + 1) l a w :=
  pure_ (i := i) (N := N) (v := v) (l.setIfInBounds i true) hi hN hc hQ hy ha h
theorem pup_ {P : Program} {md : Region.Mode} {ops : Array Oper} {Q : Exit → Act → World → Prop} {S : World → Prop} {ds : List Nat} {fuel : Nat} {l : Array Bool} {a : Act} {w : World} {oi : Oper} {T : Bool × List (List Nat × List Nat)} (hT : Aside0 (rtab md ops = T)) {v : Value} {i : Nat} {N : Option Tmp} (hi : ops[i]? = some oi) (hN : oi.dst = N) (hc : anyT T l.toList (l.setIfInBounds i true).toList i = true)
    (hQ : ∀ c a w, Q (.panic c) (a.put oi.dst v) w → Q (.panic c) a w) (hy : Yields P ops oi v a) {a' : Act} (ha : a.put N v = a') (h : wpAnyLast P md ops Q S ds fuel (l.setIfInBounds i true) a' w) : wpAnyLast P md ops Q S ds (fuel + 1) l a w :=
  puq_ hi hN (any_of hT.out hc) hQ hy ha h
theorem pw_ {P : Program} {md : Region.Mode} {ops : Array Oper} {Q : Exit → Act → World → Prop} {S : World → Prop} {ds : List Nat} {fuel : Nat} {l : Array Bool} {a : Act} {w : World} {oi : Oper} {T : Bool × List (List Nat × List Nat)} (hT : Aside0 (rtab md ops = T)) (i : Nat) (N : Option Tmp) {v : Value} {a' : Act} (h : wpAnyLast P md ops Q S ds fuel (l.setIfInBounds i true) a' w) (hi : ops[i]? = some oi := by exact rfl) (hN : oi.dst = N := by exact rfl) (hc : anyT T l.toList (l.setIfInBounds i true).toList i = true := by kernel_rfl)
    (hQ : ∀ c a w, Q (.panic c) (a.put oi.dst v) w → Q (.panic c) a w := by exact fun _ _ _ h => h) (hy : Yields P ops oi v a := by exact Or.inl ⟨by rfl, by intro w'; go_simp; with_reducible rfl⟩) (ha : a.put N v = a' := by simp only [aq_]; rfl) : wpAnyLast P md ops Q S ds (fuel + 1) l a w := pup_ hT hi hN hc hQ hy ha h
theorem sw_ {P : Program} {md : Region.Mode} {ops : Array Oper} {Q : Exit → Act → World → Prop} {S : World → Prop} {ds : List Nat} {fuel : Nat} {l : Array Bool} {a a' : Act} {w : World} {oi : Oper} {T : Bool × List (List Nat × List Nat)} (hT : Aside0 (rtab md ops = T)) (i : Nat) (N : Option Tmp) (h : wpAnyLast P md ops Q S ds fuel (l.setIfInBounds i true) a' w) (hi : ops[i]? = some oi := by exact rfl) (hN : oi.dst = N := by exact rfl) (hc : anyT T l.toList (l.setIfInBounds i true).toList i = true := by kernel_rfl)
    (hQ : ∀ c a w, Q (.panic c) (a.put oi.dst undef) w → Q (.panic c) a w := by exact fun _ _ _ h => h) (hw : Region.wanted oi (yielded ops a.tmps) = false := by rfl) (ha : a.put N undef = a' := by simp only [aq_]; rfl) : wpAnyLast P md ops Q S ds (fuel + 1) l a w := skp_ hT i N hi hN hc hQ hw ha h
def rl_ : List Nat → Bool → List Bool
  | [], _ => []
  | n :: r, b => List.replicate n b ++ rl_ r (!b)
theorem bC {α : Type} {d : Kd α} {v w' w : World} {A : Option Addr} {n : Nat} {xs : List α} (h : Kd.C d v A n xs) (hb : Below v.heap.size v w) [k : Bs w' w] : Kd.C d w' A n xs := Kd.C_below h (bw hb)
theorem ge_ {v w' w : World} {g : Nat} (hg : g = w'.heap.size) (h : Below v.heap.size v w) [k : Bs w' w] : Aside0 (v.heap.size ≤ g) := ⟨hg ▸ below_size (bw h)⟩
theorem ne_ {w' w : World} {g g' : Nat} {o : Obj} (hg : g = w'.heap.size) (h : w.heap[g']? = some o) [k : Bs w' w] : Aside0 (g' ≠ g) := ⟨hg ▸ Nat.ne_of_lt (blk_lt (bs h))⟩
theorem en_ {w' w : World} {g g' : Nat} {o : Obj} (hg : g = w'.heap.size) (h : w.heap[g']? = some o) [k : Bs w' w] : Aside0 (g ≠ g') := ⟨hg ▸ Nat.ne_of_gt (blk_lt (bs h))⟩
theorem mA_ : (∀ (α β : Type) (f : α → β) (l : List α), Array.map f l.toArray = (l.map f).toArray) ∧ (∀ (α β : Type) (f : α → β) (a : α) (l : List α), List.map f (a :: l) = f a :: List.map f l) ∧ (∀ (α β : Type) (f : α → β), List.map f [] = []) := ⟨fun _ _ _ _ => List.map_toArray, fun _ _ _ _ _ => rfl, fun _ _ _ => rfl⟩
theorem bz2 {w : World} {g : Nat} {t : TypeId} {x0 x1 : Value} (h : w.heap[g]? = some (.cells #[x0, x1] t (0, 0))) : w.cell? ⟨g, 0, none⟩ = some x0 ∧ w.cell? ⟨g, 1, none⟩ = some x1 ∧ w.frozen? ⟨g, 0, none⟩ = false ∧ w.frozen? ⟨g, 1, none⟩ = false := ⟨(blk_cell h 0).trans rfl, (blk_cell h 1).trans rfl, blk_frozen h 0, blk_frozen h 1⟩
theorem bz3 {w : World} {g : Nat} {t : TypeId} {x0 x1 x2 : Value} (h : w.heap[g]? = some (.cells #[x0, x1, x2] t (0, 0))) : w.cell? ⟨g, 0, none⟩ = some x0 ∧ w.cell? ⟨g, 1, none⟩ = some x1 ∧ w.cell? ⟨g, 2, none⟩ = some x2 ∧ w.frozen? ⟨g, 0, none⟩ = false ∧ w.frozen? ⟨g, 1, none⟩ = false ∧ w.frozen? ⟨g, 2, none⟩ = false := ⟨(blk_cell h 0).trans rfl, (blk_cell h 1).trans rfl, (blk_cell h 2).trans rfl, blk_frozen h 0, blk_frozen h 1, blk_frozen h 2⟩
end Go.Proofs.Yteakcfnhigaffaa.X
-- trimmed
