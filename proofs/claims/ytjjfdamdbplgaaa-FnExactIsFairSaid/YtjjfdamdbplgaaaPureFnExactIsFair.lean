/- The program's IsFair answers what the reference's answers, for all lists of jobs and of prices and every scale. -/
import Derived.Test.YtjjfdamdbplgaaaXSFnExactIsFair
import Derived.Test.YtjjfdamdbplgaaaXLim
namespace Go.Proofs.Ytjjfdamdbplgaaa.Pure
open Go.RowKit Go.Proofs.YtjjfdamdbplgaaaW.PrintWords Go.Proofs.YtjjfdamdbplgaaaW.PrintLast Go.Proofs.YtjjfdamdbplgaaaW.PrintMore Go.Proofs.Ytjjfdamdbplgaaa.X Go.Proofs.Ytjjfdamdbplgaaa.XRow Go.Proofs.Ytjjfdamdbplgaaa.XLim
set_option linter.unusedVariables false
set_option linter.unusedSimpArgs false
instance : ∀ a0 a1 a2, Mono (fun k => impl_IsFair.f k a0 a1 a2) := fun a0 a1 a2 => ⟨⟨impl_IsFair.mono a0 a1 a2⟩⟩
instance : ∀ a0, Mono (fun k => impl_IsJobs.f k a0) := fun a0 => ⟨⟨impl_IsJobs.mono a0⟩⟩
instance : ∀ a0, Mono (fun k => impl_IsPlain.f k a0) := fun a0 => ⟨⟨impl_IsPlain.mono a0⟩⟩
instance : ∀ a0 a1, Mono (fun k => impl_areDifferent.f k a0 a1) := fun a0 a1 => ⟨⟨impl_areDifferent.mono a0 a1⟩⟩
instance : ∀ a0 a1, Mono (fun k => impl_arePrices.f k a0 a1) := fun a0 a1 => ⟨⟨impl_arePrices.mono a0 a1⟩⟩
instance : ∀ a0 a1, Mono (fun k => impl_compareLists.f k a0 a1) := fun a0 a1 => ⟨⟨impl_compareLists.mono a0 a1⟩⟩
instance : ∀ a0 a1, Mono (fun k => impl_has.f k a0 a1) := fun a0 a1 => ⟨⟨impl_has.mono a0 a1⟩⟩
instance : ∀ a0 a1 a2, Mono (fun k => impl_isFair.f k a0 a1 a2) := fun a0 a1 a2 => ⟨⟨impl_isFair.mono a0 a1 a2⟩⟩
instance : ∀ a0, Mono (fun k => impl_isPlain.f k a0) := fun a0 => ⟨⟨impl_isPlain.mono a0⟩⟩
instance : ∀ a0, Mono (fun k => impl_isRising.f k a0) := fun a0 => ⟨⟨impl_isRising.mono a0⟩⟩
instance : ∀ a0 a1, Mono (fun k => impl_isSet.f k a0 a1) := fun a0 a1 => ⟨⟨impl_isSet.mono a0 a1⟩⟩
instance : ∀ a0 a1 a2, Mono (fun k => laws_FnExactIsFair.f k a0 a1 a2) := fun a0 a1 a2 => ⟨⟨laws_FnExactIsFair.mono a0 a1 a2⟩⟩
instance : ∀ a0 a1, Mono (fun k => laws_eqIntS.f k a0 a1) := fun a0 a1 => ⟨⟨laws_eqIntS.mono a0 a1⟩⟩
instance : ∀ a0 a1, Mono (fun k => laws_eqJobS.f k a0 a1) := fun a0 a1 => ⟨⟨laws_eqJobS.mono a0 a1⟩⟩
instance : ∀ a0 a1 a2 a3, Mono (fun k => laws_eqSetPrice.f k a0 a1 a2 a3) := fun a0 a1 a2 a3 => ⟨⟨laws_eqSetPrice.mono a0 a1 a2 a3⟩⟩
instance : ∀ a0 a1, Mono (fun k => laws_eqSetPriceS.f k a0 a1) := fun a0 a1 => ⟨⟨laws_eqSetPriceS.mono a0 a1⟩⟩
instance : ∀ a0 a1, Mono (fun k => laws_szSetPriceS.f k a0 a1) := fun a0 a1 => ⟨⟨laws_szSetPriceS.mono a0 a1⟩⟩
instance : ∀ a0, Mono (fun k => laws_toIntS.f k a0) := fun a0 => ⟨⟨laws_toIntS.mono a0⟩⟩
instance : ∀ a0, Mono (fun k => laws_toJobS.f k a0) := fun a0 => ⟨⟨laws_toJobS.mono a0⟩⟩
instance : ∀ a0 a1, Mono (fun k => laws_toSetPrice.f k a0 a1) := fun a0 a1 => ⟨⟨laws_toSetPrice.mono a0 a1⟩⟩
instance : ∀ a0, Mono (fun k => laws_toSetPriceS.f k a0) := fun a0 => ⟨⟨laws_toSetPriceS.mono a0⟩⟩
instance : ∀ a0 a1 a2, Mono (fun k => spec_IsFair.f k a0 a1 a2) := fun a0 a1 a2 => ⟨⟨spec_IsFair.mono a0 a1 a2⟩⟩
instance : ∀ a0 a1 a2, Mono (fun k => spec_l10Fair.f k a0 a1 a2) := fun a0 a1 a2 => ⟨⟨spec_l10Fair.mono a0 a1 a2⟩⟩
instance : ∀ a0 a1, Mono (fun k => spec_l10Prices.f k a0 a1) := fun a0 a1 => ⟨⟨spec_l10Prices.mono a0 a1⟩⟩
instance : ∀ a0 a1 a2, Mono (fun k => spec_l10Scaled.f k a0 a1 a2) := fun a0 a1 a2 => ⟨⟨spec_l10Scaled.mono a0 a1 a2⟩⟩
instance : ∀ a0 a1, Mono (fun k => spec_l1Has.f k a0 a1) := fun a0 a1 => ⟨⟨spec_l1Has.mono a0 a1⟩⟩
instance : ∀ a0 a1 a2, Mono (fun k => spec_l1Rising.f k a0 a1 a2) := fun a0 a1 a2 => ⟨⟨spec_l1Rising.mono a0 a1 a2⟩⟩
instance : ∀ a0, Mono (fun k => spec_l2Good.f k a0) := fun a0 => ⟨⟨spec_l2Good.mono a0⟩⟩
instance : ∀ a0, Mono (fun k => spec_l4Free.f k a0) := fun a0 => ⟨⟨spec_l4Free.mono a0⟩⟩
instance : ∀ a0 a1, Mono (fun k => spec_l4Less.f k a0 a1) := fun a0 a1 => ⟨⟨spec_l4Less.mono a0 a1⟩⟩
instance : ∀ a0, Mono (fun k => spec_l6Good.f k a0) := fun a0 => ⟨⟨spec_l6Good.mono a0⟩⟩
instance : ∀ a0 a1, Mono (fun k => spec_l6Set.f k a0 a1) := fun a0 a1 => ⟨⟨spec_l6Set.mono a0 a1⟩⟩
-- base
theorem lt_mid {α : Type} (pre : List α) (x : α) (r : List α) : ((pre.length : Int) < ((pre ++ x :: r).length : Int)) = True := by
  simp only [List.length_append, List.length_cons]
  exact eq_true (by omega)
theorem not_lt_end {α : Type} (pre : List α) : ((pre.length : Int) < ((pre ++ []).length : Int)) = False := by
  simp
theorem le_nat (n : Nat) : (0 ≤ (n : Int)) = True := eq_true (by omega)
theorem getD_mid {α : Type} (pre : List α) (x : α) (r : List α) (d : α) : (pre ++ x :: r).getD (pre.length : Int).toNat d = x := by
  simp [List.getD_eq_getElem?_getD]
theorem rd_mid (pre : List Int) (x : Int) (r : List Int) : rd (pre ++ x :: r) (pre.length : Int) = x := getD_mid pre x r 0
theorem wrap_mid {α : Type} (pre : List α) (x : α) (h : pre.length < 4611686018427387904) : wrap64 ((pre.length : Int) + 1) = ((pre ++ [x]).length : Int) := by
  rw [wrap_id (by omega) (by omega)]
  simp
theorem set_mid {α β : Type} (a : List α) (y v : α) (b : List α) (pre : List β) (h : pre.length = a.length) : (a ++ y :: b).set (pre.length : Int).toNat v = a ++ v :: b := by
  rw [Int.toNat_natCast, h, List.set_append_right _ _ (Nat.le_refl _)]
  simp
theorem rep_succ {α : Type} (x : α) (r : List α) {β : Type} (z : β) : List.replicate (x :: r).length z = z :: List.replicate r.length z := rfl
theorem app_cons {α : Type} (pre : List α) (x : α) (r : List α) : pre ++ x :: r = (pre ++ [x]) ++ r := by simp
-- toInt
theorem toIntS_l (r : List Int) : ∀ pre : List Int, (pre ++ r).length < 4611686018427387904 → L (fun k => laws_toIntS.l0 k (pre ++ r) (pre ++ List.replicate r.length 0) (pre.length : Int)) = some (pre ++ r) := by
  induction r with
  | nil =>
    intro pre hb
    rw [L_shift]
    simp only [laws_toIntS.l0, not_lt_end, if_false, L_const, List.length_nil, List.replicate_zero]
  | cons x r ih =>
    intro pre hb
    rw [L_shift]
    have hl : pre.length < 4611686018427387904 := by simp at hb; omega
    simp only [laws_toIntS.l0, lt_mid, le_nat, if_true, rep_succ, rd_mid, wrap_mid pre x hl, set_mid pre _ x _ pre rfl]
    rw [app_cons pre x r, app_cons pre x (List.replicate _ _)]
    exact ih (pre ++ [x]) (by simpa using hb)
theorem toIntS_L (l : List Int) (h : l.length ≤ 1048576) : L (fun k => laws_toIntS.f k l) = some l := by
  simp only [laws_toIntS.f, le_nat, if_true, Int.toNat_natCast, if_pos (show l.length ≤ 35184372088832 by omega)]
  exact toIntS_l l [] (by simp; omega)
-- eqInt
theorem eqIntS_l (r : List Int) : ∀ pre : List Int, (pre ++ r).length < 4611686018427387904 → L (fun k => laws_eqIntS.l0 k (pre ++ r) (pre ++ r) (pre.length : Int)) = some true := by
  induction r with
  | nil =>
    intro pre hb
    rw [L_shift]
    simp only [laws_eqIntS.l0, not_lt_end, if_false, L_const]
  | cons x r ih =>
    intro pre hb
    rw [L_shift]
    have hl : pre.length < 4611686018427387904 := by simp at hb; omega
    simp only [laws_eqIntS.l0, lt_mid, le_nat, if_true, rd_mid, wrap_mid pre x hl]
    rw [app_cons pre x r]
    exact ih (pre ++ [x]) (by simpa using hb)
theorem eqIntS_L (l : List Int) (h : l.length ≤ 1048576) : L (fun k => laws_eqIntS.f k l l) = some true := by
  simp only [laws_eqIntS.f, if_true]
  exact eqIntS_l l [] (by simp; omega)
-- toJob
def toJobP (x : S78) : S76 := ⟨x.f0, x.f1, x.f2, x.f3⟩
theorem toJobS_l (r : List S78) : ∀ pre : List S78, (pre ++ r).length < 4611686018427387904 → L (fun k => laws_toJobS.l0 k (pre ++ r) (pre.map toJobP ++ List.replicate r.length z76) (pre.length : Int)) = some ((pre ++ r).map toJobP) := by
  induction r with
  | nil =>
    intro pre hb
    rw [L_shift]
    simp only [laws_toJobS.l0, not_lt_end, if_false, L_const, List.length_nil, List.replicate_zero]
    simp
  | cons x r ih =>
    intro pre hb
    rw [L_shift]
    have hl : pre.length < 4611686018427387904 := by simp at hb; omega
    have e : rd_T78 (pre ++ x :: r) (pre.length : Int) = x := getD_mid pre x r _
    have e2 : ((pre.length : Int) < ((pre.map toJobP ++ z76 :: List.replicate r.length z76).length : Int)) = True := by
      simp only [List.length_append, List.length_cons, List.length_map]
      exact eq_true (by omega)
    simp only [laws_toJobS.l0, laws_toJob.f, lt_mid, le_nat, if_true, rep_succ, e, e2, wrap_mid pre x hl, Option.bind_some, set_mid (pre.map toJobP) _ _ _ pre (by simp)]
    have := ih (pre ++ [x]) (by simpa using hb)
    simpa [toJobP] using this
theorem toJobS_L (l : List S78) (h : l.length ≤ 1048576) : L (fun k => laws_toJobS.f k l) = some (l.map toJobP) := by
  simp only [laws_toJobS.f, le_nat, if_true, Int.toNat_natCast, if_pos (show l.length ≤ 8796093022208 by omega)]
  exact toJobS_l l [] (by simp; omega)
-- eqJob
theorem eqJobS_l (r : List S76) : ∀ pre : List S76, (pre ++ r).length < 4611686018427387904 → L (fun k => laws_eqJobS.l0 k (pre ++ r) (pre ++ r) (pre.length : Int)) = some true := by
  induction r with
  | nil =>
    intro pre hb
    rw [L_shift]
    simp only [laws_eqJobS.l0, not_lt_end, if_false, L_const]
  | cons x r ih =>
    intro pre hb
    rw [L_shift]
    have hl : pre.length < 4611686018427387904 := by simp at hb; omega
    simp only [laws_eqJobS.l0, laws_eqJob.f, lt_mid, le_nat, if_true, wrap_mid pre x hl, Option.bind_some]
    rw [app_cons pre x r]
    exact ih (pre ++ [x]) (by simpa using hb)
theorem eqJobS_L (l : List S76) (h : l.length ≤ 1048576) : L (fun k => laws_eqJobS.f k l l) = some true := by
  simp only [laws_eqJobS.f, if_true]
  exact eqJobS_l l [] (by simp; omega)
-- szJob
theorem szJobS_e (l : List S78) (h : l.length ≤ 9223372036854775807) : laws_szJobS.f l 1048576 = if l.length ≤ 1048576 then some (1048576 - (l.length : Int)) else some (-1) := by
  unfold laws_szJobS.f
  have e : wrap64 (1048576 - (l.length : Int)) = 1048576 - (l.length : Int) := wrap_id (by omega) (by omega)
  rw [e]
  by_cases h2 : l.length ≤ 1048576
  · rw [if_neg (by omega), if_pos h2]
  · rw [if_pos (by omega), if_neg h2]
-- bools
theorem ite_and (b c : Bool) : (if b = true then some c else some false) = some (b && c) := by cases b <;> rfl
theorem ite_not_and (b c : Bool) : (if b = true then some false else some c) = some (!b && c) := by cases b <;> rfl
theorem bind_self {α : Type} (o : Option α) : (o.bind fun t => some t) = o := by cases o <;> rfl
def inB (a lo hi : Int) : Bool := decide (lo ≤ a) && decide (a ≤ hi)
theorem inB_iff {a lo hi : Int} : inB a lo hi = true ↔ lo ≤ a ∧ a ≤ hi := by simp [inB]
-- within
theorem within_e (a lo hi : Int) : impl_within.f a lo hi = some (inB a lo hi) := by
  unfold impl_within.f inB
  by_cases h : lo ≤ a <;> simp [h]
-- l1In
theorem l1In_e (a lo hi : Int) : spec_l1In.f a lo hi = some (inB a lo hi) := by
  unfold spec_l1In.f inB
  by_cases h : lo ≤ a <;> simp [h]
-- l1Has
theorem l1Has_l (x : Int) (r : List Int) : ∀ pre : List Int, (pre ++ r).length < 4611686018427387904 → L (fun k => spec_l1Has.l0 k (pre ++ r) x (pre.length : Int)) = some (decide (x ∈ r)) := by
  induction r with
  | nil =>
    intro pre hb
    rw [L_shift]
    simp only [spec_l1Has.l0, not_lt_end, if_false, L_const]
    simp
  | cons y r ih =>
    intro pre hb
    rw [L_shift]
    have hl : pre.length < 4611686018427387904 := by simp at hb; omega
    simp only [spec_l1Has.l0, lt_mid, le_nat, if_true, rd_mid, wrap_mid pre y hl, L_ite, L_const]
    rw [app_cons pre y r, ih (pre ++ [y]) (by simpa using hb)]
    by_cases h : y = x
    · subst h
      simp
    · rw [if_neg h]
      have : ¬ x = y := fun e => h e.symm
      simp [this]
theorem l1Has_L (l : List Int) (x : Int) (h : l.length < 4611686018427387904) : L (fun k => spec_l1Has.f k l x) = some (decide (x ∈ l)) := l1Has_l x l [] (by simpa using h)
-- has
theorem has_l (x : Int) (r : List Int) : ∀ pre : List Int, (pre ++ r).length < 4611686018427387904 → L (fun k => impl_has.l0 k x (pre ++ r) ((pre ++ r).length : Int) (pre.length : Int)) = some (decide (x ∈ r)) := by
  induction r with
  | nil =>
    intro pre hb
    rw [L_shift]
    simp only [impl_has.l0, not_lt_end, if_false, L_const]
    simp
  | cons y r ih =>
    intro pre hb
    rw [L_shift]
    have hl : pre.length < 4611686018427387904 := by simp at hb; omega
    simp only [impl_has.l0, lt_mid, le_nat, if_true, rd_mid, wrap_mid pre y hl, L_ite, L_const]
    rw [app_cons pre y r, ih (pre ++ [y]) (by simpa using hb)]
    by_cases h : y = x
    · subst h
      simp
    · rw [if_neg h]
      have : ¬ x = y := fun e => h e.symm
      simp [this]
theorem has_L (l : List Int) (x : Int) (h : l.length < 4611686018427387904) : L (fun k => impl_has.f k l x) = some (decide (x ∈ l)) := has_l x l [] (by simpa using h)
-- perm
theorem perm_of : ∀ (a b : List Int), a.Nodup → (∀ x ∈ a, x ∈ b) → b.length ≤ a.length → a.Perm b
  | [], b, _, _, hl => by
    have : b = [] := List.length_eq_zero_iff.1 (by simpa using hl)
    rw [this]
  | x :: a, b, hn, hs, hl => by
    have hx : x ∈ b := hs x List.mem_cons_self
    have hn' := List.nodup_cons.1 hn
    have hp := List.perm_cons_erase hx
    have h1 : (b.erase x).length ≤ a.length := by
      have := List.length_erase_of_mem hx
      simp at hl
      omega
    have h2 : ∀ y ∈ a, y ∈ b.erase x := fun y hy => (List.mem_erase_of_ne (by rintro rfl; exact hn'.1 hy)).2 (hs y (List.mem_cons_of_mem _ hy))
    exact ((perm_of a (b.erase x) hn'.2 h2 h1).cons x).trans hp.symm
def numsTo (n : Nat) : List Int := (List.range n).map (fun i : Nat => (i : Int))
theorem numsTo_length (n : Nat) : (numsTo n).length = n := by simp [numsTo]
theorem mem_numsTo {n : Nat} {x : Int} : x ∈ numsTo n ↔ 0 ≤ x ∧ x < n := by
  simp only [numsTo, List.mem_map, List.mem_range]
  constructor
  · rintro ⟨i, hi, rfl⟩
    omega
  · intro h
    exact ⟨x.toNat, by omega, by omega⟩
theorem numsTo_nodup (n : Nat) : (numsTo n).Nodup := by
  unfold numsTo
  exact List.Pairwise.map _ (fun a b h => by omega) List.nodup_range
theorem numsTo_succ (n : Nat) : numsTo (n + 1) = numsTo n ++ [(n : Int)] := by
  unfold numsTo
  rw [List.range_succ, List.map_append]
  rfl
-- orders
/-- Different numbers of n things, none of them in pre. -/
def diffB (n : Int) : List Int → List Int → Bool
  | _, [] => true
  | pre, x :: r => inB x 0 (n - 1) && (!decide (x ∈ pre) && diffB n (pre ++ [x]) r)
theorem diffB_iff (n : Int) : ∀ (r pre : List Int), diffB n pre r = true ↔ (∀ x ∈ r, 0 ≤ x ∧ x < n) ∧ r.Nodup ∧ ∀ x ∈ r, x ∉ pre
  | [], pre => by simp [diffB]
  | x :: r, pre => by
    rw [diffB, Bool.and_eq_true, Bool.and_eq_true, inB_iff, diffB_iff n r (pre ++ [x])]
    simp only [Bool.not_eq_true', decide_eq_false_iff_not, List.mem_cons, List.nodup_cons, List.mem_append, List.not_mem_nil, or_false, not_or]
    constructor
    · rintro ⟨h1, h2, h3, h4, h5⟩
      refine ⟨?_, ⟨fun hx => (h5 x hx).2 rfl, h4⟩, ?_⟩
      · rintro y (rfl | hy)
        · omega
        · exact h3 y hy
      · rintro y (rfl | hy)
        · exact h2
        · exact (h5 y hy).1
    · rintro ⟨h1, ⟨h2, h3⟩, h4⟩
      exact ⟨⟨(h1 x (.inl rfl)).1, by have := (h1 x (.inl rfl)).2; omega⟩, h4 x (.inl rfl), fun y hy => h1 y (.inr hy), h3, fun y hy => ⟨h4 y (.inr hy), fun e => h2 (e ▸ hy)⟩⟩
/-- An order of n jobs. -/
def orderB (n : Nat) (l : List Int) : Bool := decide ((l.length : Int) = n) && diffB n [] l
def IsOrd (n : Nat) (l : List Int) : Prop := l.length = n ∧ (∀ x ∈ l, 0 ≤ x ∧ x < n) ∧ l.Nodup
theorem orderB_iff {n : Nat} {l : List Int} : orderB n l = true ↔ IsOrd n l := by
  simp only [orderB, Bool.and_eq_true, decide_eq_true_eq, diffB_iff, IsOrd]
  constructor
  · rintro ⟨h, h1, h2, _⟩
    exact ⟨by omega, h1, h2⟩
  · rintro ⟨h, h1, h2⟩
    exact ⟨by omega, h1, h2, by simp⟩
theorem IsOrd.perm {n : Nat} {l : List Int} (h : IsOrd n l) : l.Perm (numsTo n) := perm_of l _ h.2.2 (fun x hx => mem_numsTo.2 (h.2.1 x hx)) (by rw [numsTo_length, h.1]; exact Nat.le_refl _)
theorem IsOrd.of_perm {n : Nat} {l : List Int} (h : l.Perm (numsTo n)) : IsOrd n l := ⟨by rw [h.length_eq, numsTo_length], fun x hx => mem_numsTo.1 (h.mem_iff.1 hx), h.nodup_iff.2 (numsTo_nodup n)⟩
theorem IsOrd.mem {n : Nat} {l : List Int} (h : IsOrd n l) {x : Int} : x ∈ l ↔ 0 ≤ x ∧ x < n := by rw [h.perm.mem_iff, mem_numsTo]
theorem isOrd_all {n : Nat} {l : List Int} (hl : l.length = n) (h : ∀ j : Nat, j < n → (j : Int) ∈ l) : IsOrd n l :=
  IsOrd.of_perm (perm_of _ l (numsTo_nodup n) (fun x hx => by
    obtain ⟨h0, h1⟩ := mem_numsTo.1 hx
    have := h x.toNat (by omega)
    rwa [Int.toNat_of_nonneg h0] at this) (by rw [numsTo_length, hl]; exact Nat.le_refl _)).symm
-- areDifferent
theorem isNumber_e (a n : Int) (h0 : -9223372036854775807 ≤ n) (h1 : n ≤ 9223372036854775807) : impl_isNumber.f a n = some (inB a 0 (n - 1)) := by
  simp only [impl_isNumber.f, within_e, Option.bind_some]
  rw [wrap_id (by omega) (by omega)]
theorem take_mid {α : Type} (pre : List α) (r : List α) : (pre ++ r).take (pre.length : Int).toNat = pre := by simp
theorem areDifferent_l (n : Nat) (hn : n ≤ 1048576) (r : List Int) : ∀ pre : List Int, (pre ++ r).length < 4611686018427387904 → L (fun k => impl_areDifferent.l0 k (n : Int) (pre ++ r) (pre ++ r) ((pre ++ r).length : Int) (pre.length : Int)) = some (diffB n pre r) := by
  induction r with
  | nil =>
    intro pre hb
    rw [L_shift]
    simp only [impl_areDifferent.l0, not_lt_end, if_false, L_const]
    simp [diffB]
  | cons x r ih =>
    intro pre hb
    rw [L_shift]
    have hl : pre.length < 4611686018427387904 := by simp at hb; omega
    have e : ((pre.length : Int) ≤ ((pre ++ x :: r).length : Int)) = True := eq_true (by simp; omega)
    simp only [impl_areDifferent.l0, lt_mid, le_nat, if_true, rd_mid, wrap_mid pre x hl, isNumber_e x (n : Int) (by omega) (by omega), Option.bind_some, e, take_mid, L_ite, L_bind, has_L pre x hl, L_const]
    rw [app_cons pre x r, ih (pre ++ [x]) (by simpa using hb), ite_not_and, ite_and]
    rfl
theorem areDifferent_L (n : Nat) (l : List Int) (hn : n ≤ 1048576) (hl : l.length < 4611686018427387904) : L (fun k => impl_areDifferent.f k (n : Int) l) = some (diffB n [] l) := areDifferent_l n hn l [] (by simpa using hl)
-- good
def jobB (j : S76) : Bool := inB j.f0 1 50 && (inB j.f1 0 50 && (inB j.f2 0 500 && inB j.f3 0 500))
def goodB (l : List S76) : Bool := l.all jobB && decide ((l.length : Int) ≤ 8)
structure JobOk (j : S76) : Prop where
  t0 : 1 ≤ j.f0
  t1 : j.f0 ≤ 50
  w0 : 0 ≤ j.f1
  w1 : j.f1 ≤ 50
  r0 : 0 ≤ j.f2
  r1 : j.f2 ≤ 500
  d0 : 0 ≤ j.f3
  d1 : j.f3 ≤ 500
def Good (l : List S76) : Prop := l.length ≤ 8 ∧ ∀ j ∈ l, JobOk j
theorem goodB_iff {l : List S76} : goodB l = true ↔ Good l := by
  simp only [goodB, Good, Bool.and_eq_true, List.all_eq_true, decide_eq_true_eq, jobB, inB_iff]
  constructor
  · rintro ⟨h, hl⟩
    exact ⟨by omega, fun j hj => by
      obtain ⟨⟨a, b⟩, ⟨c, d⟩, ⟨e, f⟩, g, i⟩ := h j hj
      exact ⟨a, b, c, d, e, f, g, i⟩⟩
  · rintro ⟨hl, h⟩
    exact ⟨fun j hj => ⟨⟨(h j hj).t0, (h j hj).t1⟩, ⟨(h j hj).w0, (h j hj).w1⟩, ⟨(h j hj).r0, (h j hj).r1⟩, (h j hj).d0, (h j hj).d1⟩, by omega⟩
-- l2Good
theorem l2Job_e (j : S76) : spec_l2Job.f j.f0 j.f1 j.f2 j.f3 = some (jobB j) := by
  simp only [spec_l2Job.f, l1In_e, Option.bind_some, ite_and, jobB]
theorem l2Good_l (r : List S76) : ∀ pre : List S76, (pre ++ r).length < 4611686018427387904 → L (fun k => spec_l2Good.l0 k (pre ++ r) (pre.length : Int)) = some (r.all jobB && decide (((pre ++ r).length : Int) ≤ 8)) := by
  induction r with
  | nil =>
    intro pre hb
    rw [L_shift]
    simp only [spec_l2Good.l0, not_lt_end, if_false, L_const]
    simp
  | cons x r ih =>
    intro pre hb
    rw [L_shift]
    have hl : pre.length < 4611686018427387904 := by simp at hb; omega
    have e : rd_T76 (pre ++ x :: r) (pre.length : Int) = x := getD_mid pre x r _
    simp only [spec_l2Good.l0, lt_mid, le_nat, if_true, e, wrap_mid pre x hl, l2Job_e, Option.bind_some, L_ite, L_const]
    rw [app_cons pre x r, ih (pre ++ [x]) (by simpa using hb), ite_and]
    rw [List.all_cons, Bool.and_assoc]
theorem l2Good_L (l : List S76) (h : l.length < 4611686018427387904) : L (fun k => spec_l2Good.f k l) = some (goodB l) := by
  have := l2Good_l l [] (by simpa using h)
  simpa [goodB, spec_l2Good.f] using this
-- IsJobs
theorem isDate_e (n : Int) : impl_isDate.f n = some (inB n 0 500) := by
  simp only [impl_isDate.f, within_e, Option.bind_some]
theorem IsJobs_l (r : List S76) : ∀ pre : List S76, (pre ++ r).length < 4611686018427387904 → L (fun k => impl_IsJobs.l0 k (pre ++ r) ((pre ++ r).length : Int) (pre.length : Int)) = some (r.all jobB) := by
  induction r with
  | nil =>
    intro pre hb
    rw [L_shift]
    simp only [impl_IsJobs.l0, not_lt_end, if_false, L_const]
    simp
  | cons x r ih =>
    intro pre hb
    rw [L_shift]
    have hl : pre.length < 4611686018427387904 := by simp at hb; omega
    have e : rd_T76 (pre ++ x :: r) (pre.length : Int) = x := getD_mid pre x r _
    simp only [impl_IsJobs.l0, lt_mid, le_nat, if_true, e, wrap_mid pre x hl, within_e, isDate_e, Option.bind_some, L_ite, L_const]
    rw [app_cons pre x r, ih (pre ++ [x]) (by simpa using hb)]
    simp only [ite_and, List.all_cons, jobB, Bool.and_assoc]
theorem IsJobs_L (l : List S76) (h : l.length < 4611686018427387904) : L (fun k => impl_IsJobs.f k l) = some (goodB l) := by
  have := IsJobs_l l [] (by simpa using h)
  simp only [List.nil_append, List.length_nil, Int.natCast_zero] at this
  simp only [impl_IsJobs.f, L_ite, L_const, this, goodB]
  by_cases h8 : (l.length : Int) ≤ 8
  · rw [if_neg (by omega)]
    simp [h8]
  · rw [if_pos (by omega)]
    simp [h8]
-- plain
def plainB (l : List S76) : Bool := l.all (fun j => decide (j.f2 = 0))
theorem plainB_iff {l : List S76} : plainB l = true ↔ ∀ j ∈ l, j.f2 = 0 := by simp [plainB]
-- isPlain
theorem isPlain_l (r : List S76) : ∀ pre : List S76, (pre ++ r).length < 4611686018427387904 → L (fun k => impl_isPlain.l0 k (pre ++ r) ((pre ++ r).length : Int) (pre.length : Int)) = some (plainB r) := by
  induction r with
  | nil =>
    intro pre hb
    rw [L_shift]
    simp only [impl_isPlain.l0, not_lt_end, if_false, L_const]
    rfl
  | cons x r ih =>
    intro pre hb
    rw [L_shift]
    have hl : pre.length < 4611686018427387904 := by simp at hb; omega
    have e : rd_T76 (pre ++ x :: r) (pre.length : Int) = x := getD_mid pre x r _
    simp only [impl_isPlain.l0, lt_mid, le_nat, if_true, e, wrap_mid pre x hl, L_ite, L_const]
    rw [app_cons pre x r, ih (pre ++ [x]) (by simpa using hb)]
    by_cases h : x.f2 = 0 <;> simp [h, plainB]
theorem isPlain_L (l : List S76) (h : l.length < 4611686018427387904) : L (fun k => impl_isPlain.f k l) = some (plainB l) := by
  have := isPlain_l l [] (by simpa using h)
  simpa [impl_isPlain.f] using this
-- IsPlain
theorem IsPlain_L (l : List S76) (h : l.length < 4611686018427387904) : L (fun k => impl_IsPlain.f k l) = some (goodB l && plainB l) := by
  simp only [impl_IsPlain.f, bind_self, L_bind, IsJobs_L l h, Option.bind_some, L_ite, isPlain_L l h, L_const, ite_and]
-- szInt
theorem szIntS_e (l : List Int) (v : Int) (h : l.length ≤ 9223372036854775807) (h0 : 0 ≤ v) (h1 : v ≤ 1048576) : laws_szIntS.f l v = some (if (l.length : Int) ≤ v then v - (l.length : Int) else -1) := by
  unfold laws_szIntS.f
  rw [wrap_id (show -9223372036854775808 ≤ v - (l.length : Int) by omega) (by omega)]
  by_cases h2 : (l.length : Int) ≤ v
  · rw [if_neg (by omega), if_pos h2]
  · rw [if_pos (by omega), if_neg h2]
-- szPrice
theorem szSetPrice_e (x : S105) (v : Int) (h : x.f0.length ≤ 9223372036854775807) (h0 : 0 ≤ v) (h1 : v ≤ 1048576) : laws_szSetPrice.f x.f0 x.f1 v = some (if (x.f0.length : Int) ≤ v then v - (x.f0.length : Int) else -1) := by
  simp only [laws_szSetPrice.f, szIntS_e x.f0 v h h0 h1, Option.bind_some]
  by_cases h2 : (x.f0.length : Int) ≤ v
  · rw [if_pos h2, if_neg (by omega)]
  · rw [if_neg h2, if_pos (by omega)]
theorem szSetPriceS_l (r : List S105) : ∀ (pre : List S105) (v : Int), (pre ++ r).length < 4611686018427387904 → 0 ≤ v → v ≤ 1048576 → (∀ x ∈ r, x.f0.length ≤ 9223372036854775807) →
    ∃ t, L (fun k => laws_szSetPriceS.l0 k (pre ++ r) v (pre.length : Int)) = some t ∧ (t < 0 ∨ 0 ≤ t ∧ ∀ x ∈ r, x.f0.length ≤ 1048576) := by
  induction r with
  | nil =>
    intro pre v hb h0 h1 hr
    rw [L_shift]
    simp only [laws_szSetPriceS.l0, not_lt_end, if_false, L_const]
    exact ⟨v, rfl, .inr ⟨h0, by simp⟩⟩
  | cons x r ih =>
    intro pre v hb h0 h1 hr
    rw [L_shift]
    have hl : pre.length < 4611686018427387904 := by simp at hb; omega
    have e : rd_T105 (pre ++ x :: r) (pre.length : Int) = x := getD_mid pre x r _
    simp only [laws_szSetPriceS.l0, lt_mid, le_nat, if_true, e, wrap_mid pre x hl, szSetPrice_e x v (hr x List.mem_cons_self) h0 h1, Option.bind_some, L_ite, L_const]
    by_cases h2 : (x.f0.length : Int) ≤ v
    · rw [if_pos h2, if_neg (by omega), app_cons pre x r]
      obtain ⟨t, ht, hd⟩ := ih (pre ++ [x]) (v - (x.f0.length : Int)) (by simpa using hb) (by omega) (by omega) (fun y hy => hr y (List.mem_cons_of_mem _ hy))
      refine ⟨t, ht, hd.imp id (fun hd => ⟨hd.1, ?_⟩)⟩
      intro y hy
      rcases List.mem_cons.1 hy with rfl | hy
      · omega
      · exact hd.2 y hy
    · rw [if_neg h2, if_pos (by omega)]
      exact ⟨-1, rfl, .inl (by omega)⟩
theorem szSetPriceS_L (l : List S105) (v : Int) (h0 : 0 ≤ v) (h1 : v ≤ 1048576) (hl : l.length ≤ 9223372036854775807) (hr : ∀ x ∈ l, x.f0.length ≤ 9223372036854775807) :
    ∃ t, L (fun k => laws_szSetPriceS.f k l v) = some t ∧ (t < 0 ∨ 0 ≤ t ∧ l.length ≤ 1048576 ∧ ∀ x ∈ l, x.f0.length ≤ 1048576) := by
  simp only [laws_szSetPriceS.f]
  rw [wrap_id (show -9223372036854775808 ≤ v - (l.length : Int) by omega) (by omega)]
  by_cases h : v - (l.length : Int) < 0
  · simp only [if_pos h, L_const]
    exact ⟨-1, rfl, .inl (by omega)⟩
  · simp only [if_neg h]
    obtain ⟨t, ht, hd⟩ := szSetPriceS_l l [] (v - (l.length : Int)) (by simp; omega) (by omega) (by omega) hr
    exact ⟨t, ht, hd.imp id (fun hd => ⟨hd.1, by omega, hd.2⟩)⟩
-- toPrice
def toPriceP (x : S105) : S108 := ⟨x.f0, x.f1⟩
theorem toSetPriceS_l (r : List S105) : ∀ pre : List S105, (pre ++ r).length < 4611686018427387904 → (∀ x ∈ r, x.f0.length ≤ 1048576) → L (fun k => laws_toSetPriceS.l0 k (pre ++ r) (pre.map toPriceP ++ List.replicate r.length z108) (pre.length : Int)) = some ((pre ++ r).map toPriceP) := by
  induction r with
  | nil =>
    intro pre hb hr
    rw [L_shift]
    simp only [laws_toSetPriceS.l0, not_lt_end, if_false, L_const, List.length_nil, List.replicate_zero]
    simp
  | cons x r ih =>
    intro pre hb hr
    rw [L_shift]
    have hl : pre.length < 4611686018427387904 := by simp at hb; omega
    have e : rd_T105 (pre ++ x :: r) (pre.length : Int) = x := getD_mid pre x r _
    have e2 : ((pre.length : Int) < ((pre.map toPriceP ++ z108 :: List.replicate r.length z108).length : Int)) = True := by
      simp only [List.length_append, List.length_cons, List.length_map]
      exact eq_true (by omega)
    simp only [laws_toSetPriceS.l0, laws_toSetPrice.f, lt_mid, le_nat, if_true, rep_succ, e, e2, wrap_mid pre x hl, L_bind, L_const, toIntS_L x.f0 (hr x List.mem_cons_self), Option.bind_some, set_mid (pre.map toPriceP) _ _ _ pre (by simp)]
    have := ih (pre ++ [x]) (by simpa using hb) (fun y hy => hr y (List.mem_cons_of_mem _ hy))
    simpa [toPriceP] using this
theorem toSetPriceS_L (l : List S105) (h : l.length ≤ 1048576) (hr : ∀ x ∈ l, x.f0.length ≤ 1048576) : L (fun k => laws_toSetPriceS.f k l) = some (l.map toPriceP) := by
  simp only [laws_toSetPriceS.f, le_nat, if_true, Int.toNat_natCast, if_pos (show l.length ≤ 8796093022208 by omega)]
  exact toSetPriceS_l l [] (by simp; omega) hr
-- eqPrice
theorem eqSetPriceS_l (r : List S108) : ∀ pre : List S108, (pre ++ r).length < 4611686018427387904 → (∀ x ∈ r, x.f0.length ≤ 1048576) → L (fun k => laws_eqSetPriceS.l0 k (pre ++ r) (pre ++ r) (pre.length : Int)) = some true := by
  induction r with
  | nil =>
    intro pre hb hr
    rw [L_shift]
    simp only [laws_eqSetPriceS.l0, not_lt_end, if_false, L_const]
  | cons x r ih =>
    intro pre hb hr
    rw [L_shift]
    have hl : pre.length < 4611686018427387904 := by simp at hb; omega
    have e : rd_T108 (pre ++ x :: r) (pre.length : Int) = x := getD_mid pre x r _
    simp only [laws_eqSetPriceS.l0, laws_eqSetPrice.f, lt_mid, le_nat, if_true, e, wrap_mid pre x hl, L_bind, L_const, eqIntS_L x.f0 (hr x List.mem_cons_self), Option.bind_some]
    rw [app_cons pre x r]
    exact ih (pre ++ [x]) (by simpa using hb) (fun y hy => hr y (List.mem_cons_of_mem _ hy))
theorem eqSetPriceS_L (l : List S108) (h : l.length ≤ 1048576) (hr : ∀ x ∈ l, x.f0.length ≤ 1048576) : L (fun k => laws_eqSetPriceS.f k l l) = some true := by
  simp only [laws_eqSetPriceS.f, if_true]
  exact eqSetPriceS_l l [] (by simp; omega) hr
-- l6Good
theorem l4Free_l (r : List S76) : ∀ pre : List S76, (pre ++ r).length < 4611686018427387904 → L (fun k => spec_l4Free.l0 k (pre ++ r) (pre.length : Int)) = some (r.all (fun j => decide (j.f2 ≤ 0))) := by
  induction r with
  | nil =>
    intro pre hb
    rw [L_shift]
    simp only [spec_l4Free.l0, not_lt_end, if_false, L_const]
    rfl
  | cons x r ih =>
    intro pre hb
    rw [L_shift]
    have hl : pre.length < 4611686018427387904 := by simp at hb; omega
    have e : rd_T76 (pre ++ x :: r) (pre.length : Int) = x := getD_mid pre x r _
    simp only [spec_l4Free.l0, lt_mid, le_nat, if_true, e, wrap_mid pre x hl, L_ite, L_const]
    rw [app_cons pre x r, ih (pre ++ [x]) (by simpa using hb)]
    by_cases h : x.f2 > 0
    · have h2 : ¬ x.f2 ≤ 0 := by omega
      simp [h, h2]
    · have h2 : x.f2 ≤ 0 := by omega
      simp [h, h2]
theorem l6Good_L (l : List S76) (h : l.length < 4611686018427387904) : L (fun k => spec_l6Good.f k l) = some (goodB l && plainB l) := by
  have h4 := l4Free_l l [] (by simpa using h)
  simp only [List.nil_append, List.length_nil, Int.natCast_zero] at h4
  simp only [spec_l6Good.f, spec_l4Free.f, bind_self, L_bind, l2Good_L l h, Option.bind_some, L_ite, L_const]
  rw [h4, ite_and]
  congr 1
  cases hg : goodB l with
  | false => rfl
  | true =>
    have hg2 := (goodB_iff.1 hg).2
    simp only [Bool.true_and]
    rw [Bool.eq_iff_iff]
    simp only [plainB, List.all_eq_true, decide_eq_true_eq]
    constructor
    · intro h5 j hj
      have := h5 j hj
      have := (hg2 j hj).r0
      omega
    · intro h5 j hj
      have := h5 j hj
      omega
-- setB
/-- Rising from y on. -/
def riseB : Int → List Int → Bool
  | _, [] => true
  | y, x :: r => decide (y < x) && riseB x r
def risesB : List Int → Bool
  | [] => true
  | x :: r => riseB x r
/-- A set of numbers of n things. -/
def setB (n : Nat) (l : List Int) : Bool := risesB l && l.all (fun x => inB x 0 ((n : Int) - 1))
theorem riseB_all : ∀ (y : Int) (r : List Int), riseB y r = true → (∀ x ∈ r, y < x) ∧ r.Nodup
  | y, [], _ => by simp
  | y, x :: r, h => by
    simp only [riseB, Bool.and_eq_true, decide_eq_true_eq] at h
    obtain ⟨h1, h2⟩ := riseB_all x r h.2
    refine ⟨?_, List.nodup_cons.2 ⟨fun hx => by have := h1 x hx; omega, h2⟩⟩
    intro z hz
    rcases List.mem_cons.1 hz with rfl | hz
    · exact h.1
    · have := h1 z hz
      omega
theorem risesB_nodup : ∀ l : List Int, risesB l = true → l.Nodup
  | [], _ => by simp
  | x :: r, h => by
    obtain ⟨h1, h2⟩ := riseB_all x r h
    exact List.nodup_cons.2 ⟨fun hx => by have := h1 x hx; omega, h2⟩
theorem setB_range {n : Nat} {l : List Int} (h : setB n l = true) : ∀ x ∈ l, 0 ≤ x ∧ x < n := by
  simp only [setB, Bool.and_eq_true, List.all_eq_true, inB_iff] at h
  intro x hx
  have := h.2 x hx
  omega
theorem setB_diff (n : Nat) (l : List Int) : (risesB l && diffB (n : Int) [] l) = setB n l := by
  unfold setB
  cases h : risesB l with
  | false => rfl
  | true =>
    simp only [Bool.true_and]
    rw [Bool.eq_iff_iff, diffB_iff]
    simp only [List.all_eq_true, inB_iff]
    constructor
    · intro h2 x hx
      have := h2.1 x hx
      omega
    · intro h2
      exact ⟨fun x hx => by have := h2 x hx; omega, risesB_nodup l h, by simp⟩
-- isSet
theorem last_idx {α : Type} (pre : List α) (y : α) (h : pre.length < 4611686018427387904) : wrap64 (((pre ++ [y]).length : Int) - 1) = (pre.length : Int) := by
  have e : ((pre ++ [y]).length : Int) = (pre.length : Int) + 1 := by simp
  rw [e, wrap_id (by omega) (by omega)]
  omega
theorem app_two {α : Type} (pre : List α) (y x : α) (r : List α) : pre ++ [y] ++ x :: r = pre ++ y :: x :: r := by simp
theorem lt_mid2 {α : Type} (pre : List α) (x y : α) (r : List α) : ((pre.length : Int) < ((pre ++ [x] ++ y :: r).length : Int)) = True := eq_true (by simp only [List.length_append, List.length_cons, List.length_nil]; omega)
theorem isRising_l (r : List Int) : ∀ (pre : List Int) (y : Int), (pre ++ [y] ++ r).length < 4611686018427387904 → L (fun k => impl_isRising.l0 k (pre ++ [y] ++ r) ((pre ++ [y]).length : Int)) = some (riseB y r) := by
  induction r with
  | nil =>
    intro pre y hb
    rw [L_shift]
    simp only [impl_isRising.l0, not_lt_end, if_false, L_const]
    rfl
  | cons x r ih =>
    intro pre y hb
    rw [L_shift]
    have hl : pre.length < 4611686018427387904 := by simp at hb; omega
    have hl2 : (pre ++ [y]).length < 4611686018427387904 := by simp at hb ⊢; omega
    have e : rd (pre ++ [y] ++ x :: r) (pre.length : Int) = y := by rw [app_two]; exact rd_mid pre y (x :: r)
    simp only [impl_isRising.l0, lt_mid, lt_mid2, le_nat, last_idx pre y hl, if_true, rd_mid, e, wrap_mid _ x hl2, L_ite, L_const]
    rw [app_cons (pre ++ [y]) x r, ih (pre ++ [y]) x (by simpa using hb)]
    by_cases h : y < x
    · rw [if_neg (by omega)]
      simp [riseB, h]
    · rw [if_pos (by omega)]
      simp [riseB, h]
theorem isRising_L (l : List Int) (h : l.length < 4611686018427387904) : L (fun k => impl_isRising.f k l) = some (risesB l) := by
  simp only [impl_isRising.f]
  cases l with
  | nil =>
    rw [L_shift]
    simp only [impl_isRising.l0, List.length_nil, if_neg (show ¬ ((1 : Int) < ((0 : Nat) : Int)) by omega), L_const]
    rfl
  | cons x r => exact isRising_l r [] x (by simpa using h)
theorem isSet_L (n : Nat) (l : List Int) (hn : n ≤ 1048576) (hl : l.length < 4611686018427387904) : L (fun k => impl_isSet.f k (n : Int) l) = some (setB n l) := by
  simp only [impl_isSet.f, bind_self, L_bind, isRising_L l hl, Option.bind_some, L_ite, areDifferent_L n l hn hl, L_const, ite_and, setB_diff]
-- l6Set
theorem l1Rising_l (lo hi : Int) (r : List Int) : ∀ (pre : List Int) (y : Int), (pre ++ [y] ++ r).length < 4611686018427387904 → L (fun k => spec_l1Rising.l0 k (pre ++ [y] ++ r) lo hi ((pre ++ [y]).length : Int)) = some (riseB y r && r.all (fun x => inB x lo hi)) := by
  induction r with
  | nil =>
    intro pre y hb
    rw [L_shift]
    simp only [spec_l1Rising.l0, not_lt_end, if_false, L_const]
    rfl
  | cons x r ih =>
    intro pre y hb
    rw [L_shift]
    have hl : pre.length < 4611686018427387904 := by simp at hb; omega
    have hl2 : (pre ++ [y]).length < 4611686018427387904 := by simp at hb ⊢; omega
    have e : rd (pre ++ [y] ++ x :: r) (pre.length : Int) = y := by rw [app_two]; exact rd_mid pre y (x :: r)
    have e3 : (((pre ++ [y]).length : Int) > 0) = True := eq_true (by simp only [List.length_append, List.length_cons, List.length_nil]; omega)
    simp only [spec_l1Rising.l0, lt_mid, lt_mid2, le_nat, last_idx pre y hl, if_true, rd_mid, e, e3, wrap_mid _ x hl2, l1In_e, Option.bind_some, L_ite, L_const]
    rw [app_cons (pre ++ [y]) x r, ih (pre ++ [y]) x (by simpa using hb)]
    simp only [riseB, List.all_cons]
    generalize r.all (fun x => inB x lo hi) = A
    generalize riseB x r = B
    by_cases h : y < x
    · rw [if_neg (show ¬ (y ≥ x) by omega)]
      cases inB x lo hi <;> cases A <;> cases B <;> simp [h]
    · rw [if_pos (show y ≥ x by omega)]
      cases inB x lo hi <;> simp [h]
theorem l1Rising_L (l : List Int) (lo hi : Int) (h : l.length < 4611686018427387904) : L (fun k => spec_l1Rising.f k l lo hi) = some (risesB l && l.all (fun x => inB x lo hi)) := by
  simp only [spec_l1Rising.f]
  cases l with
  | nil =>
    rw [L_shift]
    simp only [spec_l1Rising.l0, List.length_nil, Int.natCast_zero, Int.lt_irrefl, if_false, L_const]
    rfl
  | cons x r =>
    rw [L_shift]
    have := l1Rising_l lo hi r [] x (by simpa using h)
    simp only [List.nil_append, List.singleton_append, List.length_singleton, Int.natCast_one] at this
    have e : rd (x :: r) 0 = x := rfl
    have e2 : ((0 : Int) < ((x :: r).length : Int)) = True := eq_true (by simp only [List.length_append, List.length_cons, List.length_nil]; omega)
    have e3 : wrap64 ((0 : Int) + 1) = 1 := (wrap_id (by omega) (by omega)).trans (by omega)
    simp only [spec_l1Rising.l0, e2, Int.le_refl, if_true, e, e3, l1In_e, Option.bind_some, show ¬ ((0 : Int) > 0) by omega, if_false, L_ite, L_const, this]
    simp only [risesB, List.all_cons]
    generalize r.all (fun x => inB x lo hi) = A
    generalize riseB x r = B
    cases inB x lo hi <;> cases A <;> cases B <;> simp
theorem l6Set_L (l : List S76) (s : List Int) (hn : l.length ≤ 1048576) (hl : s.length < 4611686018427387904) : L (fun k => spec_l6Set.f k l s) = some (setB l.length s) := by
  simp only [spec_l6Set.f, bind_self]
  rw [wrap_id (show -9223372036854775808 ≤ (l.length : Int) - 1 by omega) (by omega)]
  exact l1Rising_L s 0 _ hl
-- lessF
def lessF : List Int → List Int → Bool
  | x :: a, y :: b => if x = y then lessF a b else decide (x < y)
  | _, _ => false
/-- Shorter ones first; those of one length by their first different number. -/
def lessB (a b : List Int) : Bool := if a.length = b.length then lessF a b else decide (a.length < b.length)
theorem rd_at {p q : List Int} (hp : p.length = q.length) (y : Int) (b : List Int) : rd (q ++ y :: b) (p.length : Int) = y := by
  rw [hp]
  exact rd_mid q y b
theorem lt_at {p q : List Int} (hp : p.length = q.length) (y : Int) (b : List Int) : ((p.length : Int) < ((q ++ y :: b).length : Int)) = True := by
  rw [hp]
  exact lt_mid q y b
-- l4Less
theorem l4Less_l : ∀ (a b p q : List Int), p.length = q.length → a.length = b.length → (p ++ a).length < 4611686018427387904 → L (fun k => spec_l4Less.l0 k (p ++ a) (q ++ b) (p.length : Int)) = some (lessF a b)
  | [], [], p, q, hp, hl, hb => by
    rw [L_shift]
    simp only [spec_l4Less.l0, not_lt_end, if_false, L_const]
    rfl
  | x :: a, y :: b, p, q, hp, hl, hb => by
    rw [L_shift]
    have h1 : p.length < 4611686018427387904 := by simp at hb; omega
    simp only [spec_l4Less.l0, lt_mid, le_nat, if_true, rd_mid, rd_at hp, lt_at hp, wrap_mid p x h1, L_ite, L_const]
    rw [app_cons p x a, app_cons q y b, l4Less_l a b (p ++ [x]) (q ++ [y]) (by simp [hp]) (by simpa using hl) (by simpa using hb)]
    by_cases h : x = y
    · rw [if_pos h, lessF, if_pos h]
    · rw [if_neg h, lessF, if_neg h]
  | [], y :: b, p, q, hp, hl, hb => by simp at hl
  | x :: a, [], p, q, hp, hl, hb => by simp at hl
theorem l4Less_L (a b : List Int) (h : a.length < 4611686018427387904) : L (fun k => spec_l4Less.f k a b) = some (lessB a b) := by
  simp only [spec_l4Less.f, L_ite, L_const, lessB]
  by_cases hl : a.length = b.length
  · rw [if_pos (by omega), if_pos hl]
    exact l4Less_l a b [] [] rfl hl (by simpa using h)
  · rw [if_neg (by omega), if_neg hl]
    congr 1
    apply decide_eq_decide.2
    omega
-- compareLists
theorem impl_compareLists_j1 (x0 : List Int) (x1 : List Int) (x5 : Int) (x15 : Bool) : L (fun k => impl_compareLists.j1 k x0 x1 x5 x15) = L (fun k => if x15 = true then (if 0 ≤ x5 then (if x5 < (x0.length : Int) then (if x5 < (x1.length : Int) then (if (rd x0 x5) = (rd x1 x5) then (impl_compareLists.l0 k x0 x1 (wrap64 (x5 + 1))) else (some (wrap64 ((rd x0 x5) - (rd x1 x5))))) else (none)) else (none)) else (none)) else (some (wrap64 ((x0.length : Int) - (x1.length : Int))))) := by
  rw [L_shift]
  simp only [impl_compareLists.j1]
theorem impl_compareLists_j1f (x0 : List Int) (x1 : List Int) (x5 : Int) : L (fun k => impl_compareLists.j1 k x0 x1 x5 false) = L (fun k => some (wrap64 ((x0.length : Int) - (x1.length : Int)))) := by
  rw [L_shift]
  simp only [impl_compareLists.j1, Bool.false_eq_true, if_false]
theorem compareLists_l : ∀ (a b p q : List Int), p.length = q.length → a.length = b.length → (p ++ a).length < 4611686018427387904 → (∀ x ∈ a, 0 ≤ x ∧ x < 1048576) → (∀ x ∈ b, 0 ≤ x ∧ x < 1048576) → ∃ c, L (fun k => impl_compareLists.l0 k (p ++ a) (q ++ b) (p.length : Int)) = some c ∧ (c < 0 ↔ lessF a b = true)
  | [], [], p, q, hp, hl, hb, ha, hb2 => by
    rw [L_shift]
    simp only [impl_compareLists.l0, not_lt_end, if_false, impl_compareLists_j1, Bool.false_eq_true, L_const]
    refine ⟨_, rfl, ?_⟩
    simp only [List.append_nil, hp, Int.sub_self, lessF]
    rw [wrap_id (by omega) (by omega)]
    simp
  | x :: a, y :: b, p, q, hp, hl, hb, ha, hb2 => by
    rw [L_shift]
    have h1 : p.length < 4611686018427387904 := by simp at hb; omega
    have hx := ha x List.mem_cons_self
    have hy := hb2 y List.mem_cons_self
    simp only [impl_compareLists.l0, lt_mid, le_nat, if_true, rd_mid, rd_at hp, lt_at hp, decide_true, impl_compareLists_j1, wrap_mid p x h1, L_ite, L_const, wrap_id (show -9223372036854775808 ≤ x - y by omega) (show x - y ≤ 9223372036854775807 by omega)]
    obtain ⟨c, hc, hi⟩ := compareLists_l a b (p ++ [x]) (q ++ [y]) (by simp [hp]) (by simpa using hl) (by simpa using hb) (fun z hz => ha z (List.mem_cons_of_mem _ hz)) (fun z hz => hb2 z (List.mem_cons_of_mem _ hz))
    rw [app_cons p x a, app_cons q y b, hc]
    by_cases h : x = y
    · rw [if_pos h, lessF, if_pos h]
      exact ⟨c, rfl, hi⟩
    · rw [if_neg h, lessF, if_neg h]
      exact ⟨_, rfl, by rw [decide_eq_true_eq]; omega⟩
  | [], y :: b, p, q, hp, hl, hb, _, _ => by simp at hl
  | x :: a, [], p, q, hp, hl, hb, _, _ => by simp at hl
theorem compareLists_L (a b : List Int) (hl : a.length = b.length) (h : a.length < 4611686018427387904) (ha : ∀ x ∈ a, 0 ≤ x ∧ x < 1048576) (hb : ∀ x ∈ b, 0 ≤ x ∧ x < 1048576) : ∃ c, L (fun k => impl_compareLists.f k a b) = some c ∧ (c < 0 ↔ lessF a b = true) := by
  simp only [impl_compareLists.f]
  exact compareLists_l a b [] [] rfl hl (by simpa using h) ha hb
-- prices
def priceB (n : Nat) (x : S108) : Bool := decide (x.f0.length ≠ 0) && (setB n x.f0 && inB x.f1 1 50000000)
def pricesF (n : Nat) : List Int → List S108 → Bool
  | _, [] => true
  | s, x :: r => priceB n x && (lessB s x.f0 && pricesF n x.f0 r)
def pricesB (n : Nat) : List S108 → Bool
  | [] => true
  | x :: r => priceB n x && pricesF n x.f0 r
theorem priceB_iff {n : Nat} {x : S108} (h : priceB n x = true) : setB n x.f0 = true ∧ 1 ≤ x.f1 ∧ x.f1 ≤ 50000000 := by
  simp only [priceB, Bool.and_eq_true, inB_iff] at h
  exact ⟨h.2.1, h.2.2⟩
theorem pricesF_all {n : Nat} : ∀ {s : List Int} {r : List S108}, pricesF n s r = true → ∀ x ∈ r, priceB n x = true
  | s, [], _, x, hx => by cases hx
  | s, y :: r, h, x, hx => by
    simp only [pricesF, Bool.and_eq_true] at h
    rcases List.mem_cons.1 hx with rfl | hx
    · exact h.1
    · exact pricesF_all h.2.2 x hx
theorem pricesB_all {n : Nat} : ∀ {r : List S108}, pricesB n r = true → ∀ x ∈ r, priceB n x = true
  | [], _, x, hx => by cases hx
  | y :: r, h, x, hx => by
    simp only [pricesB, Bool.and_eq_true] at h
    rcases List.mem_cons.1 hx with rfl | hx
    · exact h.1
    · exact pricesF_all h.2 x hx
-- l10Prices
theorem spec_l10Prices_j1 (x0 : List (S76)) (x1 : List (S108)) (x5 : Int) (x37 : Bool) : L (fun k => spec_l10Prices.j1 k x0 x1 x5 x37) = L (fun k => if x37 = true then (some false) else (if x5 > 0 then (if 0 ≤ (wrap64 (x5 - 1)) then (if (wrap64 (x5 - 1)) < (x1.length : Int) then (if 0 ≤ x5 then (if x5 < (x1.length : Int) then ((spec_l4Less.f k ((rd_T108 x1 (wrap64 (x5 - 1))).f0) ((rd_T108 x1 x5).f0)).bind fun t739 => (if t739 = true then (spec_l10Prices.l0 k x0 x1 (wrap64 (x5 + 1))) else (some false))) else (none)) else (none)) else (none)) else (none)) else (spec_l10Prices.l0 k x0 x1 (wrap64 (x5 + 1))))) := by
  rw [L_shift]
  simp only [spec_l10Prices.j1]
theorem spec_l10Prices_j1f (x0 : List (S76)) (x1 : List (S108)) (x5 : Int) : L (fun k => spec_l10Prices.j1 k x0 x1 x5 false) = L (fun k => if x5 > 0 then (if 0 ≤ (wrap64 (x5 - 1)) then (if (wrap64 (x5 - 1)) < (x1.length : Int) then (if 0 ≤ x5 then (if x5 < (x1.length : Int) then ((spec_l4Less.f k ((rd_T108 x1 (wrap64 (x5 - 1))).f0) ((rd_T108 x1 x5).f0)).bind fun t739 => (if t739 = true then (spec_l10Prices.l0 k x0 x1 (wrap64 (x5 + 1))) else (some false))) else (none)) else (none)) else (none)) else (none)) else (spec_l10Prices.l0 k x0 x1 (wrap64 (x5 + 1)))) := by
  rw [L_shift]
  simp only [spec_l10Prices.j1, Bool.false_eq_true, if_false]
theorem l10Prices_l (l : List S76) (hn : l.length ≤ 1048576) (r : List S108) : ∀ (pre : List S108) (y : S108), (pre ++ [y] ++ r).length < 4611686018427387904 → (∀ x ∈ y :: r, x.f0.length ≤ 1048576) → L (fun k => spec_l10Prices.l0 k l (pre ++ [y] ++ r) ((pre ++ [y]).length : Int)) = some (pricesF l.length y.f0 r) := by
  induction r with
  | nil =>
    intro pre y hb hs
    rw [L_shift]
    simp only [spec_l10Prices.l0, not_lt_end, if_false, L_const]
    rfl
  | cons x r ih =>
    intro pre y hb hs
    rw [L_shift]
    have hl : pre.length < 4611686018427387904 := by simp at hb; omega
    have hl2 : (pre ++ [y]).length < 4611686018427387904 := by simp at hb ⊢; omega
    have e : rd_T108 (pre ++ [y] ++ x :: r) (pre.length : Int) = y := by rw [app_two]; exact getD_mid pre y (x :: r) _
    have e1 : rd_T108 (pre ++ [y] ++ x :: r) ((pre ++ [y]).length : Int) = x := getD_mid (pre ++ [y]) x r _
    have e3 : (((pre ++ [y]).length : Int) > 0) = True := eq_true (by simp only [List.length_append, List.length_cons, List.length_nil]; omega)
    have hy := hs y List.mem_cons_self
    have hx := hs x (List.mem_cons_of_mem _ List.mem_cons_self)
    simp only [spec_l10Prices.l0, lt_mid, le_nat, if_true, e1, L_ite, L_bind, l6Set_L l x.f0 hn (by omega), Option.bind_some, l1In_e, L_const, spec_l10Prices_j1, e3, last_idx pre y hl, lt_mid2, e, l4Less_L y.f0 x.f0 (by omega), wrap_mid _ x hl2]
    rw [app_cons (pre ++ [y]) x r, ih (pre ++ [y]) x (by simpa using hb) (fun z hz => hs z (List.mem_cons_of_mem _ hz))]
    simp only [pricesF, priceB]
    by_cases h0 : x.f0.length = 0
    · simp [h0]
    · rw [if_neg (by omega)]
      cases setB l.length x.f0 <;> cases inB x.f1 1 50000000 <;> cases lessB y.f0 x.f0 <;> simp [h0]
theorem l10Prices_L (l : List S76) (hn : l.length ≤ 1048576) (ps : List S108) (hp : ps.length ≤ 1048576) (hs : ∀ x ∈ ps, x.f0.length ≤ 1048576) : L (fun k => spec_l10Prices.f k l ps) = some (pricesB l.length ps) := by
  simp only [spec_l10Prices.f]
  cases ps with
  | nil =>
    rw [L_shift]
    simp only [spec_l10Prices.l0, List.length_nil, Int.natCast_zero, Int.lt_irrefl, if_false, L_const]
    rfl
  | cons x r =>
    rw [L_shift]
    have := l10Prices_l l hn r [] x (by simp at hp ⊢; omega) hs
    simp only [List.nil_append, List.singleton_append, List.length_singleton, Int.natCast_one] at this
    have e : rd_T108 (x :: r) 0 = x := rfl
    have e2 : ((0 : Int) < ((x :: r).length : Int)) = True := eq_true (by simp only [List.length_append, List.length_cons, List.length_nil]; omega)
    have e3 : wrap64 ((0 : Int) + 1) = 1 := (wrap_id (by omega) (by omega)).trans (by omega)
    have hx := hs x List.mem_cons_self
    simp only [spec_l10Prices.l0, e2, Int.le_refl, if_true, e, e3, L_ite, L_bind, l6Set_L l x.f0 hn (by omega), Option.bind_some, l1In_e, L_const, spec_l10Prices_j1, show ¬ ((0 : Int) > 0) by omega, if_false, this]
    simp only [pricesB, priceB]
    by_cases h0 : x.f0.length = 0
    · simp [h0]
    · rw [if_neg (by omega)]
      cases setB l.length x.f0 <;> cases inB x.f1 1 50000000 <;> simp [h0]
-- arePrices
theorem impl_arePrices_j1 (x0 : List (S76)) (x1 : List (S108)) (x5 : Int) (x8 : List (S108)) (x9 : Int) (x10 : Int) (x32 : Bool) (x773000 : List Int) (x773001 : Int) : L (fun k => impl_arePrices.j1 k x0 x1 x5 x8 x9 x10 x32 x773000 x773001) = L (fun k => if x32 = true then (some false) else (if x5 > 0 then (if 0 ≤ (wrap64 (x5 - 1)) then (if (wrap64 (x5 - 1)) < (x1.length : Int) then (if (((rd_T108 x1 (wrap64 (x5 - 1))).f0).length : Int) > (x773000.length : Int) then (some false) else (if (((rd_T108 x1 (wrap64 (x5 - 1))).f0).length : Int) = (x773000.length : Int) then ((impl_compareLists.f k ((rd_T108 x1 (wrap64 (x5 - 1))).f0) x773000).bind fun t776 => (if t776 ≥ 0 then (some false) else (impl_arePrices.l0 k x0 x1 x8 x9 (wrap64 (x10 + 1))))) else (impl_arePrices.l0 k x0 x1 x8 x9 (wrap64 (x10 + 1))))) else (none)) else (none)) else (impl_arePrices.l0 k x0 x1 x8 x9 (wrap64 (x10 + 1))))) := by
  rw [L_shift]
  simp only [impl_arePrices.j1]
theorem impl_arePrices_j1f (x0 : List (S76)) (x1 : List (S108)) (x5 : Int) (x8 : List (S108)) (x9 : Int) (x10 : Int) (x773000 : List Int) (x773001 : Int) : L (fun k => impl_arePrices.j1 k x0 x1 x5 x8 x9 x10 false x773000 x773001) = L (fun k => if x5 > 0 then (if 0 ≤ (wrap64 (x5 - 1)) then (if (wrap64 (x5 - 1)) < (x1.length : Int) then (if (((rd_T108 x1 (wrap64 (x5 - 1))).f0).length : Int) > (x773000.length : Int) then (some false) else (if (((rd_T108 x1 (wrap64 (x5 - 1))).f0).length : Int) = (x773000.length : Int) then ((impl_compareLists.f k ((rd_T108 x1 (wrap64 (x5 - 1))).f0) x773000).bind fun t776 => (if t776 ≥ 0 then (some false) else (impl_arePrices.l0 k x0 x1 x8 x9 (wrap64 (x10 + 1))))) else (impl_arePrices.l0 k x0 x1 x8 x9 (wrap64 (x10 + 1))))) else (none)) else (none)) else (impl_arePrices.l0 k x0 x1 x8 x9 (wrap64 (x10 + 1)))) := by
  rw [L_shift]
  simp only [impl_arePrices.j1, Bool.false_eq_true, if_false]
theorem arePrices_l (l : List S76) (hn : l.length ≤ 1048576) (r : List S108) : ∀ (pre : List S108) (y : S108), (pre ++ [y] ++ r).length < 4611686018427387904 → (∀ x ∈ y :: r, x.f0.length ≤ 1048576) → setB l.length y.f0 = true → L (fun k => impl_arePrices.l0 k l (pre ++ [y] ++ r) (pre ++ [y] ++ r) ((pre ++ [y] ++ r).length : Int) ((pre ++ [y]).length : Int)) = some (pricesF l.length y.f0 r) := by
  induction r with
  | nil =>
    intro pre y hb hs hy
    rw [L_shift]
    simp only [impl_arePrices.l0, not_lt_end, if_false, L_const]
    rfl
  | cons x r ih =>
    intro pre y hb hs hy
    rw [L_shift]
    have hl : pre.length < 4611686018427387904 := by simp at hb; omega
    have hl2 : (pre ++ [y]).length < 4611686018427387904 := by simp at hb ⊢; omega
    have e : rd_T108 (pre ++ [y] ++ x :: r) (pre.length : Int) = y := by rw [app_two]; exact getD_mid pre y (x :: r) _
    have e1 : rd_T108 (pre ++ [y] ++ x :: r) ((pre ++ [y]).length : Int) = x := getD_mid (pre ++ [y]) x r _
    have e3 : (((pre ++ [y]).length : Int) > 0) = True := eq_true (by simp only [List.length_append, List.length_cons, List.length_nil]; omega)
    have hy2 := hs y List.mem_cons_self
    have hx := hs x (List.mem_cons_of_mem _ List.mem_cons_self)
    simp only [impl_arePrices.l0, lt_mid, le_nat, if_true, e1, L_ite, L_bind, isSet_L l.length x.f0 hn (by omega), Option.bind_some, within_e, L_const, impl_arePrices_j1, e3, last_idx pre y hl, lt_mid2, e, wrap_mid _ x hl2]
    by_cases h1 : setB l.length x.f0 = true
    · have ih' := ih (pre ++ [y]) x (by simpa using hb) (fun z hz => hs z (List.mem_cons_of_mem _ hz)) h1
      rw [app_cons (pre ++ [y]) x r, ih']
      rw [if_pos h1]
      simp only [pricesF, priceB, h1, lessB]
      by_cases h0 : x.f0.length = 0
      · simp [h0]
      · rw [if_neg (show ¬ ((x.f0.length : Int) = 0) by omega)]
        cases inB x.f1 1 50000000 with
        | false => simp
        | true =>
          simp only [Bool.not_true, Bool.false_eq_true, if_false, ne_eq, h0, not_false_eq_true, decide_true, Bool.true_and]
          rcases Nat.lt_trichotomy y.f0.length x.f0.length with h2 | h2 | h2
          · rw [if_neg (by omega), if_neg (by omega), if_neg (by omega), decide_eq_true h2, Bool.true_and]
          · obtain ⟨c, hc, hi⟩ := compareLists_L y.f0 x.f0 h2 (by omega) (fun z hz => by have := setB_range hy z hz; omega) (fun z hz => by have := setB_range h1 z hz; omega)
            rw [if_neg (by omega), if_pos (by omega), if_pos h2, hc, Option.bind_some]
            cases hf : lessF y.f0 x.f0 with
            | true => rw [if_neg (by have := hi.2 hf; omega), Bool.true_and]
            | false =>
              rw [if_pos, Bool.false_and]
              apply Int.not_lt.1
              intro h3
              rw [hi.1 h3] at hf
              cases hf
          · rw [if_pos (by omega), if_neg (by omega), decide_eq_false (by omega), Bool.false_and]
    · rw [if_neg h1]
      simp only [pricesF, priceB, Bool.eq_false_iff.2 h1]
      simp
theorem arePrices_L (l : List S76) (hn : l.length ≤ 1048576) (ps : List S108) (hp : ps.length ≤ 1048576) (hs : ∀ x ∈ ps, x.f0.length ≤ 1048576) : L (fun k => impl_arePrices.f k l ps) = some (pricesB l.length ps) := by
  simp only [impl_arePrices.f]
  cases ps with
  | nil =>
    rw [L_shift]
    simp only [impl_arePrices.l0, List.length_nil, Int.natCast_zero, Int.lt_irrefl, if_false, L_const]
    rfl
  | cons x r =>
    rw [L_shift]
    have e : rd_T108 (x :: r) 0 = x := rfl
    have e2 : ((0 : Int) < ((x :: r).length : Int)) = True := eq_true (by simp only [List.length_append, List.length_cons, List.length_nil]; omega)
    have e3 : wrap64 ((0 : Int) + 1) = 1 := (wrap_id (by omega) (by omega)).trans (by omega)
    have hx := hs x List.mem_cons_self
    simp only [impl_arePrices.l0, e2, Int.le_refl, if_true, e, e3, L_ite, L_bind, isSet_L l.length x.f0 hn (by omega), Option.bind_some, within_e, L_const, impl_arePrices_j1, show ¬ ((0 : Int) > 0) by omega, if_false]
    simp only [pricesB, priceB]
    by_cases h1 : setB l.length x.f0 = true
    · have := arePrices_l l hn r [] x (by simp at hp ⊢; omega) hs h1
      simp only [List.nil_append, List.singleton_append, List.length_singleton, Int.natCast_one] at this
      rw [this, if_pos h1, h1]
      by_cases h0 : x.f0.length = 0
      · simp [h0]
      · rw [if_neg (show ¬ ((x.f0.length : Int) = 0) by omega)]
        cases inB x.f1 1 50000000 <;> simp [h0]
    · rw [if_neg h1]
      simp [Bool.eq_false_iff.2 h1]
-- fair
def fairSum (j : Int) : Int → List S108 → Int
  | v, [] => v
  | v, x :: r => fairSum j (if j ∈ x.f0 then wrap64 (v + x.f1) else v) r
def fairF (ps : List S108) (sc : Int) : Int → List S76 → Bool
  | _, [] => true
  | j, x :: r => !decide (wrap64 (fairSum j 0 ps * x.f0) > wrap64 (x.f1 * sc)) && fairF ps sc (j + 1) r
-- l10Fair
theorem l10Fair_s (l : List S76) (sc j : Int) (r : List S108) : ∀ (pre : List S108) (v : Int), (pre ++ r).length < 4611686018427387904 → (∀ x ∈ r, x.f0.length ≤ 1048576) → L (fun k => spec_l10Fair.l1 k l (pre ++ r) sc j v (pre.length : Int)) = L (fun k => spec_l10Fair.l1 k l (pre ++ r) sc j (fairSum j v r) ((pre ++ r).length : Int)) := by
  induction r with
  | nil =>
    intro pre v hb hr
    simp only [List.append_nil]
    rfl
  | cons x r ih =>
    intro pre v hb hr
    rw [L_shift]
    have hl : pre.length < 4611686018427387904 := by simp at hb; omega
    have hx := hr x List.mem_cons_self
    have e : rd_T108 (pre ++ x :: r) (pre.length : Int) = x := getD_mid pre x r _
    simp only [spec_l10Fair.l1, lt_mid, le_nat, if_true, e, L_bind, l1Has_L x.f0 j (by omega), Option.bind_some, wrap_mid pre x hl, L_ite, decide_eq_true_eq]
    rw [app_cons pre x r, fairSum]
    by_cases h : j ∈ x.f0
    · rw [if_pos h, if_pos h, ih (pre ++ [x]) _ (by simpa using hb) (fun z hz => hr z (List.mem_cons_of_mem _ hz))]
    · rw [if_neg h, if_neg h, ih (pre ++ [x]) _ (by simpa using hb) (fun z hz => hr z (List.mem_cons_of_mem _ hz))]
theorem l10Fair_l (ps : List S108) (sc : Int) (hp : ps.length ≤ 1048576) (hs : ∀ x ∈ ps, x.f0.length ≤ 1048576) (r : List S76) : ∀ pre : List S76, (pre ++ r).length < 4611686018427387904 → L (fun k => spec_l10Fair.l0 k (pre ++ r) ps sc (pre.length : Int)) = some (fairF ps sc (pre.length : Int) r) := by
  induction r with
  | nil =>
    intro pre hb
    rw [L_shift]
    simp only [spec_l10Fair.l0, not_lt_end, if_false, L_const]
    rfl
  | cons x r ih =>
    intro pre hb
    rw [L_shift]
    have hl : pre.length < 4611686018427387904 := by simp at hb; omega
    have e : rd_T76 (pre ++ x :: r) (pre.length : Int) = x := getD_mid pre x r _
    have h1 := l10Fair_s (pre ++ x :: r) sc (pre.length : Int) ps [] 0 (by simp; omega) hs
    simp only [List.nil_append, List.length_nil, Int.natCast_zero] at h1
    simp only [spec_l10Fair.l0, lt_mid, if_true]
    rw [h1, L_shift]
    simp only [spec_l10Fair.l1, Int.lt_irrefl, if_false, lt_mid, le_nat, if_true, e, wrap_mid pre x hl, L_ite, L_const]
    rw [app_cons pre x r, ih (pre ++ [x]) (by simpa using hb), fairF]
    have e2 : ((pre ++ [x]).length : Int) = (pre.length : Int) + 1 := by simp
    rw [e2]
    by_cases h : wrap64 (fairSum (pre.length : Int) 0 ps * x.f0) > wrap64 (x.f1 * sc)
    · rw [if_pos h, decide_eq_true h]
      rfl
    · rw [if_neg h, decide_eq_false h]
      rfl
theorem l10Fair_L (l : List S76) (ps : List S108) (sc : Int) (hl : l.length ≤ 1048576) (hp : ps.length ≤ 1048576) (hs : ∀ x ∈ ps, x.f0.length ≤ 1048576) : L (fun k => spec_l10Fair.f k l ps sc) = some (fairF ps sc 0 l) := l10Fair_l ps sc hp hs l [] (by simp; omega)
-- isFair
theorem isFair_s (ps0 : List S108) (sc j : Int) (js : List S76) (n i x0 x1 x2 x3 : Int) (r : List S108) : ∀ (pre : List S108) (v : Int), (pre ++ r).length < 4611686018427387904 → (∀ x ∈ r, x.f0.length ≤ 1048576) → L (fun k => impl_isFair.l1 k ps0 sc j v js n i (pre ++ r) ((pre ++ r).length : Int) (pre.length : Int) x0 x1 x2 x3) = L (fun k => impl_isFair.l1 k ps0 sc j (fairSum j v r) js n i (pre ++ r) ((pre ++ r).length : Int) ((pre ++ r).length : Int) x0 x1 x2 x3) := by
  induction r with
  | nil =>
    intro pre v hb hr
    simp only [List.append_nil]
    rfl
  | cons x r ih =>
    intro pre v hb hr
    rw [L_shift]
    have hl : pre.length < 4611686018427387904 := by simp at hb; omega
    have hx := hr x List.mem_cons_self
    have e : rd_T108 (pre ++ x :: r) (pre.length : Int) = x := getD_mid pre x r _
    simp only [impl_isFair.l1, lt_mid, le_nat, if_true, e, L_bind, has_L x.f0 j (by omega), Option.bind_some, wrap_mid pre x hl, L_ite, decide_eq_true_eq]
    rw [app_cons pre x r, fairSum]
    by_cases h : j ∈ x.f0
    · rw [if_pos h, if_pos h, ih (pre ++ [x]) _ (by simpa using hb) (fun z hz => hr z (List.mem_cons_of_mem _ hz))]
    · rw [if_neg h, if_neg h, ih (pre ++ [x]) _ (by simpa using hb) (fun z hz => hr z (List.mem_cons_of_mem _ hz))]
theorem isFair_l (ps : List S108) (sc : Int) (hp : ps.length ≤ 1048576) (hs : ∀ x ∈ ps, x.f0.length ≤ 1048576) (r : List S76) : ∀ pre : List S76, (pre ++ r).length < 4611686018427387904 → L (fun k => impl_isFair.l0 k ps sc (pre ++ r) ((pre ++ r).length : Int) (pre.length : Int)) = some (fairF ps sc (pre.length : Int) r) := by
  induction r with
  | nil =>
    intro pre hb
    rw [L_shift]
    simp only [impl_isFair.l0, not_lt_end, if_false, L_const]
    rfl
  | cons x r ih =>
    intro pre hb
    rw [L_shift]
    have hl : pre.length < 4611686018427387904 := by simp at hb; omega
    have e : rd_T76 (pre ++ x :: r) (pre.length : Int) = x := getD_mid pre x r _
    have h1 := isFair_s ps sc (pre.length : Int) (pre ++ x :: r) ((pre ++ x :: r).length : Int) (pre.length : Int) x.f0 x.f1 x.f2 x.f3 ps [] 0 (by simp; omega) hs
    simp only [List.nil_append, List.length_nil, Int.natCast_zero] at h1
    simp only [impl_isFair.l0, lt_mid, le_nat, if_true, e]
    rw [h1, L_shift]
    simp only [impl_isFair.l1, Int.lt_irrefl, if_false, wrap_mid pre x hl, L_ite, L_const]
    rw [app_cons pre x r, ih (pre ++ [x]) (by simpa using hb), fairF]
    have e2 : ((pre ++ [x]).length : Int) = (pre.length : Int) + 1 := by simp
    rw [e2]
    by_cases h : wrap64 (fairSum (pre.length : Int) 0 ps * x.f0) > wrap64 (x.f1 * sc)
    · rw [if_pos h, decide_eq_true h]
      rfl
    · rw [if_neg h, decide_eq_false h]
      rfl
theorem isFair_L (l : List S76) (ps : List S108) (sc : Int) (hl : l.length ≤ 1048576) (hp : ps.length ≤ 1048576) (hs : ∀ x ∈ ps, x.f0.length ≤ 1048576) : L (fun k => impl_isFair.f k l ps sc) = some (fairF ps sc 0 l) := isFair_l ps sc hp hs l [] (by simp; omega)

theorem IsFair_both (l : List S76) (ps : List S108) (sc : Int) (h : l.length ≤ 1048576) (hp : ps.length ≤ 1048576) (hs : ∀ x ∈ ps, x.f0.length ≤ 1048576) :
    ∃ (R : Bool) (b : Bool), L (fun k => spec_IsFair.f k l ps sc) = some (R, b) ∧ L (fun k => impl_IsFair.f k l ps sc) = some (R, b) := by
  simp only [spec_IsFair.f, spec_l10Scaled.f, impl_IsFair.f, impl_isScale.f, within_e, l1In_e, L_bind, L_ite, L_const, l6Good_L l (by omega), IsPlain_L l (by omega), Option.bind_some, l10Prices_L l h ps hp hs, arePrices_L l h ps hp hs, l10Fair_L l ps sc h hp hs, isFair_L l ps sc h hp hs]
  cases goodB l && plainB l <;> cases pricesB l.length ps <;> cases inB sc 1 1000000 <;> exact ⟨_, _, rfl, rfl⟩
theorem laws_FnExactIsFair_j0 (x0 : List (S78)) (x1 : List (S105)) (x10 : List (S76)) (x11 : List (S108)) (x51 : Bool) : L (fun k => laws_FnExactIsFair.j0 k x0 x1 x10 x11 x51) = L (fun k => if x51 = true then (some false) else ((laws_toJobS.f k x0).bind fun t1086 => ((laws_eqJobS.f k x10 t1086).bind fun t1089 => (if t1089 = true then ((laws_toSetPriceS.f k x1).bind fun t1090 => ((laws_eqSetPriceS.f k x11 t1090).bind fun t1093 => (if t1093 = true then (some true) else (some false)))) else (some false))))) := by
  rw [L_shift]
  simp only [laws_FnExactIsFair.j0]
theorem laws_FnExactIsFair_j0f (x0 : List (S78)) (x1 : List (S105)) (x10 : List (S76)) (x11 : List (S108)) : L (fun k => laws_FnExactIsFair.j0 k x0 x1 x10 x11 false) = L (fun k => (laws_toJobS.f k x0).bind fun t1086 => ((laws_eqJobS.f k x10 t1086).bind fun t1089 => (if t1089 = true then ((laws_toSetPriceS.f k x1).bind fun t1090 => ((laws_eqSetPriceS.f k x11 t1090).bind fun t1093 => (if t1093 = true then (some true) else (some false)))) else (some false)))) := by
  rw [L_shift]
  simp only [laws_FnExactIsFair.j0, Bool.false_eq_true, if_false]
theorem FnExactIsFair : laws_FnExactIsFair.Pure := by
  intro l ps sc h1 _ h2 hok _
  have e1 : maxLen = 9223372036854775807 := rfl
  refine rounds_of_L ?_
  simp only [laws_FnExactIsFair.f, L_ite, L_const, szJobS_e l (by omega), L_bind]
  by_cases hl : l.length ≤ 1048576
  · rw [if_pos hl]
    obtain ⟨t, ht, hd⟩ := szSetPriceS_L ps (1048576 - (l.length : Int)) (by omega) (by omega) (by omega) (fun x hx => by have := (hok x hx).1.1; omega)
    simp only [Option.bind_some, if_neg (show ¬ (1048576 - (l.length : Int) < 0) by omega), ht]
    rcases hd with hd | ⟨hd, hp, hs⟩
    · rw [if_pos hd]
    · rw [if_neg (by omega)]
      have hl2 : (l.map toJobP).length ≤ 1048576 := by simpa using hl
      have hp2 : (ps.map toPriceP).length ≤ 1048576 := by simpa using hp
      have hs2 : ∀ x ∈ ps.map toPriceP, x.f0.length ≤ 1048576 := by
        intro x hx
        obtain ⟨y, hy, rfl⟩ := List.mem_map.1 hx
        exact hs y hy
      obtain ⟨R, b, hsp, him⟩ := IsFair_both (l.map toJobP) (ps.map toPriceP) sc hl2 hp2 hs2
      simp only [Option.bind_some, L_bind, L_ite, L_const, toJobS_L l hl, toSetPriceS_L ps hp hs, hsp, him, eqJobS_L _ hl2, eqSetPriceS_L _ hp2 hs2, laws_FnExactIsFair_j0f, if_true, bne_self_eq_false, Bool.false_eq_true, if_false]
  · rw [if_neg hl]
    simp only [Option.bind_some, if_pos (show (-1 : Int) < 0 by decide), L_const]
end Go.Proofs.Ytjjfdamdbplgaaa.Pure
