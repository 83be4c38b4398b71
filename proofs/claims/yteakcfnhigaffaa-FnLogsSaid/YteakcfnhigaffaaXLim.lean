/- The limit of a function of rounds: what it answers from some round on. With it the printed functions become equations: no rounds are left. Nothing of the program is in here. -/
import Derived.Test.YteakcfnhigaffaaWWords
import Derived.Test.YteakcfnhigaffaaWLast
import Derived.Test.YteakcfnhigaffaaWMore
namespace Go.Proofs.Yteakcfnhigaffaa.XLim
open Go.RowKit Go.Proofs.YteakcfnhigaffaaW.PrintWords Go.Proofs.YteakcfnhigaffaaW.PrintLast Go.Proofs.YteakcfnhigaffaaW.PrintMore
set_option linter.unusedVariables false

/-- From some round on it answers o. -/
def Eventually {α : Type} (g : Nat → Option α) (o : Option α) : Prop := ∃ K, ∀ k, K ≤ k → g k = o
theorem Eventually.unique {α : Type} {g : Nat → Option α} {a b : Option α} (h : Eventually g a) (h' : Eventually g b) : a = b := by
  obtain ⟨K, h⟩ := h
  obtain ⟨K', h'⟩ := h'
  rw [← h (max K K') (Nat.le_max_left _ _), ← h' (max K K') (Nat.le_max_right _ _)]
open Classical in
/-- The limit (none where there is none). -/
noncomputable def L {α : Type} (g : Nat → Option α) : Option α := if h : ∃ o, Eventually g o then h.choose else none
theorem L_of {α : Type} {g : Nat → Option α} {o : Option α} (h : Eventually g o) : L g = o := by
  have hx : ∃ o, Eventually g o := ⟨o, h⟩
  unfold L
  rw [dif_pos hx]
  exact hx.choose_spec.unique h
theorem L_congr {α : Type} {g f : Nat → Option α} (h : ∃ K, ∀ k, K ≤ k → g k = f k) : L g = L f := by
  obtain ⟨K, h⟩ := h
  by_cases hx : ∃ o, Eventually f o
  · obtain ⟨o, K', ho⟩ := hx
    rw [L_of (g := f) ⟨K', ho⟩]
    exact L_of ⟨max K K', fun k hk => (h k (Nat.le_trans (Nat.le_max_left _ _) hk)).trans (ho k (Nat.le_trans (Nat.le_max_right _ _) hk))⟩
  · have hy : ¬ ∃ o, Eventually g o := by
      rintro ⟨o, K', ho⟩
      exact hx ⟨o, max K K', fun k hk => (h k (Nat.le_trans (Nat.le_max_left _ _) hk)).symm.trans (ho k (Nat.le_trans (Nat.le_max_right _ _) hk))⟩
    unfold L
    rw [dif_neg hx, dif_neg hy]
theorem L_const {α : Type} (o : Option α) : L (fun _ => o) = o := L_of ⟨0, fun _ _ => rfl⟩
theorem L_shift {α : Type} (g : Nat → Option α) : L g = L (fun k => g (k + 1)) := by
  by_cases hx : ∃ o, Eventually g o
  · obtain ⟨o, K, h⟩ := hx
    rw [L_of (g := g) ⟨K, h⟩]
    exact (L_of ⟨K, fun k hk => h _ (by omega)⟩).symm
  · have hy : ¬ ∃ o, Eventually (fun k => g (k + 1)) o := by
      rintro ⟨o, K, h⟩
      refine hx ⟨o, K + 1, fun k hk => ?_⟩
      obtain ⟨m, rfl⟩ : ∃ m, k = m + 1 := ⟨k - 1, by omega⟩
      exact h m (by omega)
    unfold L
    rw [dif_neg hx, dif_neg hy]
theorem L_ite {α : Type} (c : Prop) [Decidable c] (a b : Nat → Option α) : L (fun k => if c then a k else b k) = if c then L a else L b := by
  by_cases h : c
  · simp only [if_pos h]
  · simp only [if_neg h]
/-- More rounds tell the same. -/
structure MonoP {α : Type} (g : Nat → Option α) : Prop where
  mono : ∀ k, LeO (g k) (g (k + 1))
/-- .. told to Lean as an instance (of Nonempty: a class that is there). -/
abbrev Mono {α : Type} (g : Nat → Option α) : Prop := Nonempty (MonoP g)
theorem Mono.le {α : Type} {g : Nat → Option α} [h : Mono g] {k k' : Nat} (hk : k ≤ k') {r : α} (hr : g k = some r) : g k' = some r := by
  obtain ⟨h⟩ := h
  exact at_rounds h.mono hk hr
theorem L_some {α : Type} {g : Nat → Option α} [Mono g] {k : Nat} {r : α} (h : g k = some r) : L g = some r := L_of ⟨k, fun _ hk => Mono.le hk h⟩
theorem L_none {α : Type} {g : Nat → Option α} [Mono g] (h : L g = none) (k : Nat) : g k = none := by
  cases hg : g k with
  | none => rfl
  | some r =>
    rw [L_some hg] at h
    cases h
theorem Eventually_of_L {α : Type} {g : Nat → Option α} {r : α} (h : L g = some r) : Eventually g (some r) := by
  by_cases hx : ∃ o, Eventually g o
  · obtain ⟨o, ho⟩ := hx
    rw [L_of ho] at h
    rw [← h]
    exact ho
  · unfold L at h
    rw [dif_neg hx] at h
    cases h
theorem rounds_of_L {α : Type} {g : Nat → Option α} {r : α} (h : L g = some r) : ∃ k, g k = some r := by
  obtain ⟨K, h⟩ := Eventually_of_L h
  exact ⟨K, h K (Nat.le_refl _)⟩
theorem L_bind {α β : Type} (g : Nat → Option α) (f : Nat → α → Option β) [Mono g] : L (fun k => (g k).bind (f k)) = (L g).bind (fun a => L (fun k => f k a)) := by
  cases hg : L g with
  | none =>
    have h : ∀ k, (g k).bind (f k) = none := fun k => by rw [L_none hg k]; rfl
    simp only [h]
    exact L_const none
  | some a =>
    obtain ⟨K, h⟩ := Eventually_of_L hg
    exact L_congr ⟨K, fun k hk => by rw [h k hk]; rfl⟩
instance Mono.const {α : Type} (o : Option α) : Mono (fun _ => o) := ⟨⟨fun _ => LeO.refl _⟩⟩
instance Mono.ite {α : Type} (c : Prop) [Decidable c] (a b : Nat → Option α) [ha : Mono a] [hb : Mono b] : Mono (fun k => if c then a k else b k) := by
  obtain ⟨ha⟩ := ha
  obtain ⟨hb⟩ := hb
  exact ⟨⟨fun k => LeO.ite (ha.mono k) (hb.mono k)⟩⟩
instance Mono.bind {α β : Type} (g : Nat → Option α) (f : Nat → α → Option β) [hg : Mono g] [hf : ∀ a, Mono (fun k => f k a)] : Mono (fun k => (g k).bind (f k)) := by
  obtain ⟨hg⟩ := hg
  refine ⟨⟨fun k => LeO.bind (hg.mono k) (fun a => ?_)⟩⟩
  obtain ⟨ha⟩ := hf a
  exact ha.mono k
theorem wrap_id {n : Int} (h0 : -9223372036854775808 ≤ n) (h1 : n ≤ 9223372036854775807) : wrap64 n = n := by
  unfold wrap64
  omega
end Go.Proofs.Yteakcfnhigaffaa.XLim
