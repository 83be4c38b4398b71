/- Reading a call's arguments as data gives values of the kinds over which the functions of this seat are told: numbers, bools, strings, slices, structs and arrays of these. Nothing of the program is in here. -/
import Derived.Test.YteakcfnhigaffaaWWords
import Derived.Test.YteakcfnhigaffaaWLast
import Derived.Deep.Slices
import Derived.Lib.SmallJoins
import Derived.OpenShut
import Derived.Carry
import Derived.WideShapes
namespace Go.Proofs.Yteakcfnhigaffaa.XRow
open Go.RowKit Go.Proofs.YteakcfnhigaffaaW.PrintWords Go.Proofs.YteakcfnhigaffaaW.PrintLast
set_option linter.unusedVariables false

/-- What reading a type as data tells of its cells: they are a value of the kind d with ok. -/
def Opn {α : Type} (P : Program) (t : TypeId) (d : Kd α) (ok : α → Prop) : Prop :=
  P.cellsOf t = d.sz ∧ ∀ (H : Type) (enc : TypeId × Value → H) (w : World) (base : Nat) (spare : Nat → Bool) (held : Bool) (fuel : Nat) (cs : List Value) (x : DataW H × List MemPlace),
    DataW.trod enc P w base spare held fuel t cs = some x → ∃ y : α, d.K w y cs ∧ ok y

theorem Opn.int {P : Program} {t : TypeId} {k : IntKind} (ht : P.underlying t = some (.int k)) (hc : P.cellsOf t = 1) : Opn P t (Kd.int k) (fun n => (Lit.int k n).wf = true) :=
  ⟨hc, fun H enc w base spare held fuel cs x h => by
    obtain ⟨n, rfl, _, hw⟩ := DataW.trod_int ht h
    exact ⟨n, rfl, hw⟩⟩
/-- A number of 64 bits. -/
def I64 (n : Int) : Prop := -9223372036854775808 ≤ n ∧ n ≤ 9223372036854775807
theorem I64.of_wf {n : Int} (h : (Lit.int .i64 n).wf = true) : I64 n := by
  simp [Lit.wf, IntKind.min, IntKind.max, IntKind.signed, IntKind.bits] at h
  exact h
theorem Opn.i64 {P : Program} {t : TypeId} (ht : P.underlying t = some (.int .i64)) (hc : P.cellsOf t = 1) : Opn P t (Kd.int .i64) I64 :=
  ⟨hc, fun H enc w base spare held fuel cs x h => by
    obtain ⟨n, hn, hw⟩ := (Opn.int ht hc).2 H enc w base spare held fuel cs x h
    exact ⟨n, hn, I64.of_wf hw⟩⟩
theorem Opn.bool {P : Program} {t : TypeId} (ht : P.underlying t = some .bool) (hc : P.cellsOf t = 1) : Opn P t Kd.bool (fun _ => True) :=
  ⟨hc, fun H enc w base spare held fuel cs x h => by
    obtain ⟨n, rfl, _⟩ := DataW.trod_bool ht h
    exact ⟨n, rfl, trivial⟩⟩
theorem Opn.string {P : Program} {t : TypeId} (ht : P.underlying t = some .string) (hc : P.cellsOf t = 1) : Opn P t Kd.string (fun s => s.size ≤ maxLen) :=
  ⟨hc, fun H enc w base spare held fuel cs x h => by
    obtain ⟨n, rfl, _, hw⟩ := DataW.trod_string ht h
    exact ⟨n, rfl, hw⟩⟩

/-- Choose a value for each index below a bound. -/
theorem choose_list {α : Type} {p : Nat → α → Prop} : ∀ (n : Nat), (∀ i, i < n → ∃ y, p i y) → ∃ l : List α, l.length = n ∧ ∀ i y, l[i]? = some y → p i y
  | 0, _ => ⟨[], rfl, fun i y h => by simp at h⟩
  | n + 1, h => by
    obtain ⟨l, hl, hp⟩ := choose_list n (fun i hi => h i (by omega))
    obtain ⟨y, hy⟩ := h n (by omega)
    refine ⟨l ++ [y], by simp [hl], fun i z hz => ?_⟩
    by_cases hi : i < n
    · rw [List.getElem?_append_left (by omega)] at hz
      exact hp i z hz
    · rw [List.getElem?_append_right (by omega)] at hz
      have e : i = n := by
        rcases Nat.lt_or_ge (i - l.length) 1 with h1 | h1
        · omega
        · rw [List.getElem?_eq_none (by simpa using h1)] at hz
          cases hz
      subst e
      rw [hl, Nat.sub_self] at hz
      simp at hz
      subst hz
      exact hy

theorem Opn.row {α : Type} {P : Program} {t e : TypeId} {d : Kd α} {ok : α → Prop} (ht : P.underlying t = some (.slice e)) (h : Opn P e d ok)
    {H : Type} {enc : TypeId × Value → H} {w : World} {base : Nat} {spare : Nat → Bool} {held : Bool} {fuel : Nat} {cs : List Value} {x : DataW H × List MemPlace}
    (hx : DataW.trod enc P w base spare held fuel t cs = some x) :
    ∃ (l : List α) (A : Option Addr) (c : Nat), cs = [.slice A l.length c] ∧ l.length ≤ c ∧ d.C w A l.length l ∧ l.length ≤ maxLen ∧ ∀ y ∈ l, ok y := by
  rcases Go.Deep.open_slice ht hx with ⟨rfl, _⟩ | ⟨a, len, cap, m, n, D, Pl, rfl, hb, hl, hm, hmm, _, hi⟩
  · exact ⟨[], none, 0, rfl, Nat.le_refl _, ⟨rfl, by simp, fun h0 => by simp at h0⟩, by simp, by simp⟩
  · have hlm : len ≤ m := by rw [hmm]; split <;> omega
    obtain ⟨l, hll, hp⟩ := choose_list (p := fun i y => (∃ c, c.length = d.sz ∧ d.K w y c ∧ ∀ (j : Nat) (u : Value), c[j]? = some u → w.cell? (a.add (i * d.sz + j)) = some u) ∧ ok y) len (fun i hil => by
      obtain ⟨cs', hcs, ht'⟩ := hi i (by omega)
      obtain ⟨y, hy, hok⟩ := h.2 _ _ _ _ _ _ _ _ _ ht'
      refine ⟨y, ⟨cs', d.K_len hy, hy, fun j u hu => ?_⟩, hok⟩
      rw [h.1] at hcs
      obtain ⟨_, hlen, hget⟩ := World.cells?_some hcs
      have hj : j < d.sz := by
        have := (List.getElem?_eq_some_iff.1 hu).1
        omega
      have hg := hget j hj
      rw [hu] at hg
      rw [← Addr.add_add]
      exact hg)
    subst hll
    refine ⟨l, some a, cap, rfl, hl, ⟨rfl, ?_, fun _ => ⟨a, rfl, fun j p hj => (hp j p hj).1⟩⟩, Nat.le_trans hl hm, fun y hy => ?_⟩
    · have : l.length ≤ maxLen := Nat.le_trans hl hm
      unfold maxLen at this
      omega
    · obtain ⟨i, hlt, he⟩ := List.mem_iff_getElem.1 hy
      exact (hp i y (by rw [List.getElem?_eq_getElem hlt, he])).2

theorem Opn.slice {α : Type} {P : Program} {t e : TypeId} {d : Kd α} {ok : α → Prop} (ht : P.underlying t = some (.slice e)) (hc : P.cellsOf t = 1) (h : Opn P e d ok) :
    Opn P t (Kd.slice e d) (fun l => l.length ≤ maxLen ∧ ∀ y ∈ l, ok y) :=
  ⟨hc, fun H enc w base spare held fuel cs x hx => by
    obtain ⟨l, A, c, rfl, hlc, hC, hm, hok⟩ := Opn.row ht h hx
    exact ⟨l, ⟨A, c, rfl, hlc, hC⟩, hm, hok⟩⟩

/-- The fields from a place on. -/
def OpnF {α : Type} (P : Program) (fs : List Field) (off : Nat) (d : Kd α) (ok : α → Prop) : Prop :=
  ∀ (H : Type) (enc : TypeId × Value → H) (w : World) (base : Nat) (spare : Nat → Bool) (held : Bool) (fuel : Nat) (cs : List Value), cs.length = off + d.sz →
    (∀ f ∈ fs, ∃ x, DataW.trod enc P w base spare held fuel f.type ((cs.drop f.offset).take (P.cellsOf f.type)) = some x) → ∃ y : α, d.K w y (cs.drop off) ∧ ok y
theorem OpnF.last {α : Type} {P : Program} {f : Field} {off : Nat} {d : Kd α} {ok : α → Prop} (ho : f.offset = off) (h : Opn P f.type d ok) : OpnF P [f] off d ok :=
  fun H enc w base spare held fuel cs hl hf => by
    obtain ⟨x, hx⟩ := hf f List.mem_cons_self
    rw [ho, h.1, List.take_of_length_le (by rw [List.length_drop]; omega)] at hx
    exact h.2 _ _ _ _ _ _ _ _ _ hx
theorem OpnF.cons {α β : Type} {P : Program} {f : Field} {fs : List Field} {off : Nat} {a : Kd α} {b : Kd β} {oka : α → Prop} {okb : β → Prop} (ho : f.offset = off) (h : Opn P f.type a oka) (hs : OpnF P fs (off + a.sz) b okb) :
    OpnF P (f :: fs) off (Kd.pair a b) (fun p => oka p.1 ∧ okb p.2) :=
  fun H enc w base spare held fuel cs hl hf => by
    have hl' : cs.length = off + (a.sz + b.sz) := hl
    obtain ⟨x, hx⟩ := hf f List.mem_cons_self
    rw [ho, h.1] at hx
    obtain ⟨y, hy, hoky⟩ := h.2 _ _ _ _ _ _ _ _ _ hx
    obtain ⟨z, hz, hokz⟩ := hs H enc w base spare held fuel cs (by omega) (fun g hg => hf g (List.mem_cons_of_mem _ hg))
    refine ⟨(y, z), ⟨_, _, ?_, hy, hz⟩, hoky, hokz⟩
    rw [← List.drop_drop, List.take_append_drop]
theorem Opn.struct {α : Type} {P : Program} {t : TypeId} {fs : Array Field} {d : Kd α} {ok : α → Prop} (ht : P.underlying t = some (.struct fs)) (hc : P.cellsOf t = d.sz) (h : OpnF P fs.toList 0 d ok) : Opn P t d ok :=
  ⟨hc, fun H enc w base spare held fuel cs x hx => by
    obtain ⟨xs, n, rfl, rfl, hl, hlen, hf⟩ := DataW.trod_struct ht hx
    have := h H enc w base spare held n cs (by omega) (fun f hfm => by
      obtain ⟨i, hlt, he⟩ := List.mem_iff_getElem.1 hfm
      have hi : fs[i]? = some f := by
        rw [← Array.getElem?_toList, List.getElem?_eq_getElem hlt, he]
      have h2 := hf i f hi
      have hlt' : i < xs.length := by
        rw [hlen]
        simpa using hlt
      rw [List.getElem?_eq_getElem hlt'] at h2
      exact ⟨_, h2⟩)
    simpa using this⟩
theorem Opn.iso {α β : Type} {P : Program} {t : TypeId} {d : Kd α} {ok : α → Prop} {f : β → α} (g : α → β) (hg : ∀ p, f (g p) = p) (h : Opn P t d ok) : Opn P t (Kd.iso d f) (fun y => ok (f y)) :=
  ⟨h.1, fun H enc w base spare held fuel cs x hx => by
    obtain ⟨y, hy, hok⟩ := h.2 _ _ _ _ _ _ _ _ _ hx
    refine ⟨g y, ?_, ?_⟩
    · show d.K w (f (g y)) cs
      rw [hg]
      exact hy
    · show ok (f (g y))
      rw [hg]
      exact hok⟩
/-- An array of two. -/
theorem Opn.two {α : Type} {P : Program} {t e : TypeId} {d : Kd α} {ok : α → Prop} (ht : P.underlying t = some (.array 2 e)) (hc : P.cellsOf t = d.sz + d.sz) (h : Opn P e d ok) : Opn P t (Kd.pair d d) (fun p => ok p.1 ∧ ok p.2) :=
  ⟨hc, fun H enc w base spare held fuel cs x hx => by
    obtain ⟨xs, n, rfl, rfl, hl, hlen, hf⟩ := DataW.trod_array ht hx
    have h0 := hf 0 (by omega)
    have h1 := hf 1 (by omega)
    rw [List.getElem?_eq_getElem (by omega), h.1] at h0 h1
    obtain ⟨y, hy, hoky⟩ := h.2 _ _ _ _ _ _ _ _ _ h0
    obtain ⟨z, hz, hokz⟩ := h.2 _ _ _ _ _ _ _ _ _ h1
    simp only [Nat.zero_mul, List.drop_zero, Nat.one_mul] at hy hz
    rw [List.take_of_length_le (by rw [List.length_drop]; omega)] at hz
    exact ⟨(y, z), ⟨_, _, (List.take_append_drop _ _).symm, hy, hz⟩, hoky, hokz⟩⟩

section
variable {H : Type} {enc : TypeId × Value → H} {P : Program} {w : World} {base b0 : Nat} {spare : Nat → Bool} {held : Bool} {r : Reach} {v : Value} {dd : DataW H} {p : List MemPlace}
theorem arg_slice {α : Type} {t e : TypeId} {d : Kd α} {ok : α → Prop} (ht : P.underlying t = some (.slice e)) (h : Opn P e d ok) (hv : Value.okWide P w r b0 t v) (hx : DataW.Trod enc P w base spare held t v dd p) :
    ∃ (l : List α) (A : Option Addr) (c : Nat), v = .slice A l.length c ∧ l.length ≤ c ∧ d.C w A l.length l ∧ l.length ≤ maxLen ∧ ∀ y ∈ l, ok y := by
  obtain ⟨a, len, cap, rfl⟩ := Go.WideShapes.okWide_slice ht hv
  obtain ⟨fuel, hf⟩ := hx
  obtain ⟨l, A, c, he, hlc, hC, hm, hok⟩ := Opn.row ht h hf
  have he' : (Value.slice a len cap) = .slice A l.length c := by
    have : [Value.slice a len cap] = [.slice A l.length c] := he
    simpa using this
  exact ⟨l, A, c, he', hlc, hC, hm, hok⟩
end
end Go.Proofs.Yteakcfnhigaffaa.XRow
-- trimmed
