/- The program's UnitSlots answers what the reference's answers, for all lists of jobs and sets. -/
import Derived.Test.YtolkiagalchcmaaXSFnExactUnitSlots
import Derived.Test.YtolkiagalchcmaaXLim
namespace Go.Proofs.Ytolkiagalchcmaa.Pure
open Go.RowKit Go.Proofs.YtolkiagalchcmaaW.PrintWords Go.Proofs.YtolkiagalchcmaaW.PrintLast Go.Proofs.YtolkiagalchcmaaW.PrintMore Go.Proofs.Ytolkiagalchcmaa.X Go.Proofs.Ytolkiagalchcmaa.XRow Go.Proofs.Ytolkiagalchcmaa.XLim
set_option linter.unusedVariables false
set_option linter.unusedSimpArgs false
instance : ∀ a0, Mono (fun k => impl_IsJobs.f k a0) := fun a0 => ⟨⟨impl_IsJobs.mono a0⟩⟩
instance : ∀ a0, Mono (fun k => impl_IsPlain.f k a0) := fun a0 => ⟨⟨impl_IsPlain.mono a0⟩⟩
instance : ∀ l0 l1, Mono (fun k => impl_UnitSlots.f k l0 l1) := fun l0 l1 => ⟨⟨impl_UnitSlots.mono l0 l1⟩⟩
instance : ∀ a0 a1, Mono (fun k => impl_areDifferent.f k a0 a1) := fun a0 a1 => ⟨⟨impl_areDifferent.mono a0 a1⟩⟩
instance : ∀ a0, Mono (fun k => impl_areUnit.f k a0) := fun a0 => ⟨⟨impl_areUnit.mono a0⟩⟩
instance : ∀ a0 a1, Mono (fun k => impl_has.f k a0 a1) := fun a0 a1 => ⟨⟨impl_has.mono a0 a1⟩⟩
instance : ∀ a0, Mono (fun k => impl_isPlain.f k a0) := fun a0 => ⟨⟨impl_isPlain.mono a0⟩⟩
instance : ∀ a0, Mono (fun k => impl_isRising.f k a0) := fun a0 => ⟨⟨impl_isRising.mono a0⟩⟩
instance : ∀ a0 a1, Mono (fun k => impl_isSet.f k a0 a1) := fun a0 a1 => ⟨⟨impl_isSet.mono a0 a1⟩⟩
instance : ∀ a0 a1, Mono (fun k => laws_FnExactUnitSlots.f k a0 a1) := fun a0 a1 => ⟨⟨laws_FnExactUnitSlots.mono a0 a1⟩⟩
instance : ∀ a0 a1, Mono (fun k => laws_eqIntS.f k a0 a1) := fun a0 a1 => ⟨⟨laws_eqIntS.mono a0 a1⟩⟩
instance : ∀ a0 a1, Mono (fun k => laws_eqJobS.f k a0 a1) := fun a0 a1 => ⟨⟨laws_eqJobS.mono a0 a1⟩⟩
instance : ∀ a0 a1, Mono (fun k => laws_heldIntS.f k a0 a1) := fun a0 a1 => ⟨⟨laws_heldIntS.mono a0 a1⟩⟩
instance : ∀ a0 a1, Mono (fun k => laws_markIntS.f k a0 a1) := fun a0 a1 => ⟨⟨laws_markIntS.mono a0 a1⟩⟩
instance : ∀ a0 a1, Mono (fun k => laws_markJobS.f k a0 a1) := fun a0 a1 => ⟨⟨laws_markJobS.mono a0 a1⟩⟩
instance : ∀ a0, Mono (fun k => laws_toIntS.f k a0) := fun a0 => ⟨⟨laws_toIntS.mono a0⟩⟩
instance : ∀ a0, Mono (fun k => laws_toJobS.f k a0) := fun a0 => ⟨⟨laws_toJobS.mono a0⟩⟩
instance : ∀ l0 l1, Mono (fun k => spec_UnitSlots.f k l0 l1) := fun l0 l1 => ⟨⟨spec_UnitSlots.mono l0 l1⟩⟩
instance : ∀ a0 a1, Mono (fun k => spec_l10Free.f k a0 a1) := fun a0 a1 => ⟨⟨spec_l10Free.mono a0 a1⟩⟩
instance : ∀ a0, Mono (fun k => spec_l10Unit.f k a0) := fun a0 => ⟨⟨spec_l10Unit.mono a0⟩⟩
instance : ∀ a0 a1 a2, Mono (fun k => spec_l1Rising.f k a0 a1 a2) := fun a0 a1 a2 => ⟨⟨spec_l1Rising.mono a0 a1 a2⟩⟩
instance : ∀ a0, Mono (fun k => spec_l2Good.f k a0) := fun a0 => ⟨⟨spec_l2Good.mono a0⟩⟩
instance : ∀ a0, Mono (fun k => spec_l4Free.f k a0) := fun a0 => ⟨⟨spec_l4Free.mono a0⟩⟩
instance : ∀ a0, Mono (fun k => spec_l6Good.f k a0) := fun a0 => ⟨⟨spec_l6Good.mono a0⟩⟩
instance : ∀ a0 a1, Mono (fun k => spec_l6Set.f k a0 a1) := fun a0 a1 => ⟨⟨spec_l6Set.mono a0 a1⟩⟩
instance : ∀ a0 a1, Mono (fun k => spec_l6Timely.f k a0 a1) := fun a0 a1 => ⟨⟨spec_l6Timely.mono a0 a1⟩⟩
theorem lt_mid {α : Type} (pre : List α) (x : α) (r : List α) : ((pre.length : Int) < ((pre ++ x :: r).length : Int)) = True := by
  simp only [List.length_append, List.length_cons]
  exact eq_true (by omega)
theorem not_lt_end {α : Type} (pre : List α) : ((pre.length : Int) < ((pre ++ []).length : Int)) = False := by
  simp
theorem le_nat (n : Nat) : (0 ≤ (n : Int)) = True := eq_true (by omega)
theorem getD_mid {α : Type} (pre : List α) (x : α) (r : List α) (d : α) : (pre ++ x :: r).getD (pre.length : Int).toNat d = x := by
  simp [List.getD_eq_getElem?_getD]
theorem rd_mid (pre : List Int) (x : Int) (r : List Int) : rd (pre ++ x :: r) (pre.length : Int) = x := getD_mid pre x r 0
theorem wrap_mid {α : Type} (pre : List α) (x : α) (h : pre.length < 4611686018427387904) : wrap64 ((pre.length : Int) + 1) = ((pre ++ [x]).length : Int) := by
  rw [wrap_id (by omega) (by omega)]
  simp
theorem set_mid {α β : Type} (a : List α) (y v : α) (b : List α) (pre : List β) (h : pre.length = a.length) : (a ++ y :: b).set (pre.length : Int).toNat v = a ++ v :: b := by
  rw [Int.toNat_natCast, h, List.set_append_right _ _ (Nat.le_refl _)]
  simp
theorem rep_succ {α : Type} (x : α) (r : List α) {β : Type} (z : β) : List.replicate (x :: r).length z = z :: List.replicate r.length z := rfl
theorem app_cons {α : Type} (pre : List α) (x : α) (r : List α) : pre ++ x :: r = (pre ++ [x]) ++ r := by simp
theorem lt0 {a : Int} (h : 0 ≤ a) : (a < 0) = False := eq_false (by omega)
theorem toIntS_l (r : List Int) : ∀ pre : List Int, (pre ++ r).length < 4611686018427387904 → L (fun k => laws_toIntS.l0 k (pre ++ r) (pre ++ List.replicate r.length 0) (pre.length : Int)) = some (pre ++ r) := by
  induction r with
  | nil =>
    intro pre hb
    rw [L_shift]
    simp only [laws_toIntS.l0, not_lt_end, if_false, L_const, List.length_nil, List.replicate_zero]
  | cons x r ih =>
    intro pre hb
    rw [L_shift]
    have hl : pre.length < 4611686018427387904 := by simp at hb; omega
    simp only [laws_toIntS.l0, lt_mid, le_nat, if_true, rep_succ, rd_mid, wrap_mid pre x hl, set_mid pre _ x _ pre rfl]
    rw [app_cons pre x r, app_cons pre x (List.replicate _ _)]
    exact ih (pre ++ [x]) (by simpa using hb)
theorem toIntS_L (l : List Int) (h : l.length ≤ 1048576) : L (fun k => laws_toIntS.f k l) = some l := by
  simp only [laws_toIntS.f, le_nat, if_true, Int.toNat_natCast, if_pos (show l.length ≤ 35184372088832 by omega)]
  exact toIntS_l l [] (by simp; omega)
theorem eqIntS_l (r : List Int) : ∀ pre : List Int, (pre ++ r).length < 4611686018427387904 → L (fun k => laws_eqIntS.l0 k (pre ++ r) (pre ++ r) (pre.length : Int)) = some true := by
  induction r with
  | nil =>
    intro pre hb
    rw [L_shift]
    simp only [laws_eqIntS.l0, not_lt_end, if_false, L_const]
  | cons x r ih =>
    intro pre hb
    rw [L_shift]
    have hl : pre.length < 4611686018427387904 := by simp at hb; omega
    simp only [laws_eqIntS.l0, lt_mid, le_nat, if_true, rd_mid, wrap_mid pre x hl]
    rw [app_cons pre x r]
    exact ih (pre ++ [x]) (by simpa using hb)
theorem eqIntS_L (l : List Int) (h : l.length ≤ 1048576) : L (fun k => laws_eqIntS.f k l l) = some true := by
  simp only [laws_eqIntS.f, if_true]
  exact eqIntS_l l [] (by simp; omega)
def toJobP (x : S40) : S37 := ⟨x.f0, x.f1, x.f2, x.f3⟩
theorem toJobS_l (r : List S40) : ∀ pre : List S40, (pre ++ r).length < 4611686018427387904 → L (fun k => laws_toJobS.l0 k (pre ++ r) (pre.map toJobP ++ List.replicate r.length z37) (pre.length : Int)) = some ((pre ++ r).map toJobP) := by
  induction r with
  | nil =>
    intro pre hb
    rw [L_shift]
    simp only [laws_toJobS.l0, not_lt_end, if_false, L_const, List.length_nil, List.replicate_zero]
    simp
  | cons x r ih =>
    intro pre hb
    rw [L_shift]
    have hl : pre.length < 4611686018427387904 := by simp at hb; omega
    have e : rd_T40 (pre ++ x :: r) (pre.length : Int) = x := getD_mid pre x r _
    have e2 : ((pre.length : Int) < ((pre.map toJobP ++ z37 :: List.replicate r.length z37).length : Int)) = True := by
      simp only [List.length_append, List.length_cons, List.length_map]
      exact eq_true (by omega)
    simp only [laws_toJobS.l0, laws_toJob.f, lt_mid, le_nat, if_true, rep_succ, e, e2, wrap_mid pre x hl, Option.bind_some, set_mid (pre.map toJobP) _ _ _ pre (by simp)]
    have := ih (pre ++ [x]) (by simpa using hb)
    simpa [toJobP] using this
theorem toJobS_L (l : List S40) (h : l.length ≤ 1048576) : L (fun k => laws_toJobS.f k l) = some (l.map toJobP) := by
  simp only [laws_toJobS.f, le_nat, if_true, Int.toNat_natCast, if_pos (show l.length ≤ 8796093022208 by omega)]
  exact toJobS_l l [] (by simp; omega)
theorem eqJobS_l (r : List S37) : ∀ pre : List S37, (pre ++ r).length < 4611686018427387904 → L (fun k => laws_eqJobS.l0 k (pre ++ r) (pre ++ r) (pre.length : Int)) = some true := by
  induction r with
  | nil =>
    intro pre hb
    rw [L_shift]
    simp only [laws_eqJobS.l0, not_lt_end, if_false, L_const]
  | cons x r ih =>
    intro pre hb
    rw [L_shift]
    have hl : pre.length < 4611686018427387904 := by simp at hb; omega
    simp only [laws_eqJobS.l0, laws_eqJob.f, lt_mid, le_nat, if_true, wrap_mid pre x hl, Option.bind_some]
    rw [app_cons pre x r]
    exact ih (pre ++ [x]) (by simpa using hb)
theorem eqJobS_L (l : List S37) (h : l.length ≤ 1048576) : L (fun k => laws_eqJobS.f k l l) = some true := by
  simp only [laws_eqJobS.f, if_true]
  exact eqJobS_l l [] (by simp; omega)
theorem szJobS_e (l : List S40) (h : l.length ≤ 9223372036854775807) : laws_szJobS.f l 1048576 = if l.length ≤ 1048576 then some (1048576 - (l.length : Int)) else some (-1) := by
  unfold laws_szJobS.f
  have e : wrap64 (1048576 - (l.length : Int)) = 1048576 - (l.length : Int) := wrap_id (by omega) (by omega)
  rw [e]
  by_cases h2 : l.length ≤ 1048576
  · rw [if_neg (by omega), if_pos h2]
  · rw [if_pos (by omega), if_neg h2]
/-- The numbers from v on, as many as a list has. -/
def countI {α : Type} : Int → List α → List Int
  | _, [] => []
  | v, _ :: r => v :: countI (v + 1) r
theorem markIntS_l (r : List Int) : ∀ (pre : List Int) (v : Int), (pre ++ r).length < 4611686018427387904 → 0 ≤ v → v + r.length < 9223372036854775807 → L (fun k => laws_markIntS.l0 k (pre ++ r) v (pre.length : Int)) = some (v + r.length, pre ++ countI v r) := by
  induction r with
  | nil =>
    intro pre v hb h0 h1
    rw [L_shift]
    simp only [laws_markIntS.l0, not_lt_end, if_false, L_const]
    simp [countI]
  | cons x r ih =>
    intro pre v hb h0 h1
    rw [L_shift]
    have hl : pre.length < 4611686018427387904 := by simp at hb; omega
    simp only [List.length_cons] at h1
    simp only [laws_markIntS.l0, lt_mid, le_nat, if_true, wrap_mid pre v hl, set_mid pre x v r pre rfl, wrap_id (show -9223372036854775808 ≤ v + 1 by omega) (show v + 1 ≤ 9223372036854775807 by omega)]
    rw [app_cons pre v r, ih (pre ++ [v]) (v + 1) (by simpa using hb) (by omega) (by omega)]
    simp only [countI, List.length_cons, Option.some.injEq, Prod.mk.injEq]
    exact ⟨by omega, by simp⟩
theorem markIntS_L (l : List Int) (v : Int) (h : l.length ≤ 1048576) (h0 : 0 ≤ v) (h1 : v ≤ 9000000000000000000) : L (fun k => laws_markIntS.f k l v) = some (v + l.length, countI v l) := by
  have := markIntS_l l [] v (by simp; omega) h0 (by omega)
  simpa [laws_markIntS.f] using this
theorem heldIntS_l {α : Type} (r : List α) : ∀ (pre : List Int) (v : Int), (pre.length + r.length) < 4611686018427387904 → 0 ≤ v → v + r.length < 9223372036854775807 → L (fun k => laws_heldIntS.l0 k (pre ++ countI v r) v (pre.length : Int)) = some (v + r.length) := by
  induction r with
  | nil =>
    intro pre v hb h0 h1
    rw [L_shift]
    simp only [laws_heldIntS.l0, countI, not_lt_end, if_false, L_const]
    simp
  | cons x r ih =>
    intro pre v hb h0 h1
    rw [L_shift]
    simp only [List.length_cons] at h1 hb
    have hl : pre.length < 4611686018427387904 := by omega
    simp only [laws_heldIntS.l0, countI, lt_mid, le_nat, if_true, rd_mid, wrap_mid pre v hl, wrap_id (show -9223372036854775808 ≤ v + 1 by omega) (show v + 1 ≤ 9223372036854775807 by omega)]
    rw [app_cons pre v (countI _ r), ih (pre ++ [v]) (v + 1) (by simp; omega) (by omega) (by omega)]
    simp only [List.length_cons, Option.some.injEq]
    omega
theorem heldIntS_L {α : Type} (l : List α) (v : Int) (h : l.length ≤ 1048576) (h0 : 0 ≤ v) (h1 : v ≤ 9000000000000000000) : L (fun k => laws_heldIntS.f k (countI v l) v) = some (v + l.length) := by
  have := heldIntS_l l [] v (by simp; omega) h0 (by omega)
  simpa [laws_heldIntS.f] using this
def countJ : Int → List S37 → List S37
  | _, [] => []
  | v, _ :: r => ⟨v, v + 1, v + 1 + 1, v + 1 + 1 + 1⟩ :: countJ (v + 1 + 1 + 1 + 1) r
theorem markJobS_l (r : List S37) : ∀ (pre : List S37) (v : Int), (pre ++ r).length < 4611686018427387904 → 0 ≤ v → v + 4 * r.length < 9223372036854775807 → L (fun k => laws_markJobS.l0 k (pre ++ r) v (pre.length : Int)) = some (v + 4 * r.length, pre ++ countJ v r) := by
  induction r with
  | nil =>
    intro pre v hb h0 h1
    rw [L_shift]
    simp only [laws_markJobS.l0, not_lt_end, if_false, L_const]
    simp [countJ]
  | cons x r ih =>
    intro pre v hb h0 h1
    rw [L_shift]
    have hl : pre.length < 4611686018427387904 := by simp at hb; omega
    simp only [List.length_cons] at h1
    have e : ∀ y, rd_T37 (pre ++ y :: r) (pre.length : Int) = y := fun y => getD_mid pre y r _
    have es : ∀ y z, (pre ++ y :: r).set (pre.length : Int).toNat z = pre ++ z :: r := fun y z => set_mid pre y z r pre rfl
    simp only [laws_markJobS.l0, lt_mid, le_nat, if_true, Option.bind_some, e, es, wrap_mid pre x hl, wrap_id (show -9223372036854775808 ≤ v + 1 by omega) (show v + 1 ≤ 9223372036854775807 by omega), wrap_id (show -9223372036854775808 ≤ v + 1 + 1 by omega) (show v + 1 + 1 ≤ 9223372036854775807 by omega), wrap_id (show -9223372036854775808 ≤ v + 1 + 1 + 1 by omega) (show v + 1 + 1 + 1 ≤ 9223372036854775807 by omega), wrap_id (show -9223372036854775808 ≤ v + 1 + 1 + 1 + 1 by omega) (show v + 1 + 1 + 1 + 1 ≤ 9223372036854775807 by omega)]
    have := ih (pre ++ [⟨v, v + 1, v + 1 + 1, v + 1 + 1 + 1⟩]) (v + 1 + 1 + 1 + 1) (by simpa using hb) (by omega) (by omega)
    simp only [List.append_assoc, List.cons_append, List.nil_append, List.length_append, List.length_cons, List.length_nil] at this ⊢
    rw [this]
    simp only [countJ, Option.some.injEq, Prod.mk.injEq]
    exact ⟨by omega, by first | rfl | trivial⟩
theorem markJobS_L (l : List S37) (v : Int) (h : l.length ≤ 1048576) (h0 : 0 ≤ v) (h1 : v ≤ 9000000000000000000) : L (fun k => laws_markJobS.f k l v) = some (v + 4 * l.length, countJ v l) := by
  have := markJobS_l l [] v (by simp; omega) h0 (by omega)
  simpa [laws_markJobS.f] using this
theorem ite_and (b c : Bool) : (if b = true then some c else some false) = some (b && c) := by cases b <;> rfl
theorem ite_not_and (b c : Bool) : (if b = true then some false else some c) = some (!b && c) := by cases b <;> rfl
theorem bind_self {α : Type} (o : Option α) : (o.bind fun t => some t) = o := by cases o <;> rfl
def inB (a lo hi : Int) : Bool := decide (lo ≤ a) && decide (a ≤ hi)
theorem inB_iff {a lo hi : Int} : inB a lo hi = true ↔ lo ≤ a ∧ a ≤ hi := by simp [inB]
theorem within_e (a lo hi : Int) : impl_within.f a lo hi = some (inB a lo hi) := by
  unfold impl_within.f inB
  by_cases h : lo ≤ a <;> simp [h]
theorem l1In_e (a lo hi : Int) : spec_l1In.f a lo hi = some (inB a lo hi) := by
  unfold spec_l1In.f inB
  by_cases h : lo ≤ a <;> simp [h]
theorem has_l (x : Int) (r : List Int) : ∀ pre : List Int, (pre ++ r).length < 4611686018427387904 → L (fun k => impl_has.l0 k x (pre ++ r) ((pre ++ r).length : Int) (pre.length : Int)) = some (decide (x ∈ r)) := by
  induction r with
  | nil =>
    intro pre hb
    rw [L_shift]
    simp only [impl_has.l0, not_lt_end, if_false, L_const]
    simp
  | cons y r ih =>
    intro pre hb
    rw [L_shift]
    have hl : pre.length < 4611686018427387904 := by simp at hb; omega
    simp only [impl_has.l0, lt_mid, le_nat, if_true, rd_mid, wrap_mid pre y hl, L_ite, L_const]
    rw [app_cons pre y r, ih (pre ++ [y]) (by simpa using hb)]
    by_cases h : y = x
    · subst h
      simp
    · rw [if_neg h]
      have : ¬ x = y := fun e => h e.symm
      simp [this]
theorem has_L (l : List Int) (x : Int) (h : l.length < 4611686018427387904) : L (fun k => impl_has.f k l x) = some (decide (x ∈ l)) := has_l x l [] (by simpa using h)
def numsTo (n : Nat) : List Int := (List.range n).map (fun i : Nat => (i : Int))
/-- Different numbers of n things, none of them in pre. -/
def diffB (n : Int) : List Int → List Int → Bool
  | _, [] => true
  | pre, x :: r => inB x 0 (n - 1) && (!decide (x ∈ pre) && diffB n (pre ++ [x]) r)
theorem diffB_iff (n : Int) : ∀ (r pre : List Int), diffB n pre r = true ↔ (∀ x ∈ r, 0 ≤ x ∧ x < n) ∧ r.Nodup ∧ ∀ x ∈ r, x ∉ pre
  | [], pre => by simp [diffB]
  | x :: r, pre => by
    rw [diffB, Bool.and_eq_true, Bool.and_eq_true, inB_iff, diffB_iff n r (pre ++ [x])]
    simp only [Bool.not_eq_true', decide_eq_false_iff_not, List.mem_cons, List.nodup_cons, List.mem_append, List.not_mem_nil, or_false, not_or]
    constructor
    · rintro ⟨h1, h2, h3, h4, h5⟩
      refine ⟨?_, ⟨fun hx => (h5 x hx).2 rfl, h4⟩, ?_⟩
      · rintro y (rfl | hy)
        · omega
        · exact h3 y hy
      · rintro y (rfl | hy)
        · exact h2
        · exact (h5 y hy).1
    · rintro ⟨h1, ⟨h2, h3⟩, h4⟩
      exact ⟨⟨(h1 x (.inl rfl)).1, by have := (h1 x (.inl rfl)).2; omega⟩, h4 x (.inl rfl), fun y hy => h1 y (.inr hy), h3, fun y hy => ⟨h4 y (.inr hy), fun e => h2 (e ▸ hy)⟩⟩
/-- An order of n jobs. -/
def orderB (n : Nat) (l : List Int) : Bool := decide ((l.length : Int) = n) && diffB n [] l
def IsOrd (n : Nat) (l : List Int) : Prop := l.length = n ∧ (∀ x ∈ l, 0 ≤ x ∧ x < n) ∧ l.Nodup
theorem isNumber_e (a n : Int) (h0 : -9223372036854775807 ≤ n) (h1 : n ≤ 9223372036854775807) : impl_isNumber.f a n = some (inB a 0 (n - 1)) := by
  simp only [impl_isNumber.f, within_e, Option.bind_some]
  rw [wrap_id (by omega) (by omega)]
theorem take_mid {α : Type} (pre : List α) (r : List α) : (pre ++ r).take (pre.length : Int).toNat = pre := by simp
theorem areDifferent_l (n : Nat) (hn : n ≤ 1048576) (r : List Int) : ∀ pre : List Int, (pre ++ r).length < 4611686018427387904 → L (fun k => impl_areDifferent.l0 k (n : Int) (pre ++ r) (pre ++ r) ((pre ++ r).length : Int) (pre.length : Int)) = some (diffB n pre r) := by
  induction r with
  | nil =>
    intro pre hb
    rw [L_shift]
    simp only [impl_areDifferent.l0, not_lt_end, if_false, L_const]
    simp [diffB]
  | cons x r ih =>
    intro pre hb
    rw [L_shift]
    have hl : pre.length < 4611686018427387904 := by simp at hb; omega
    have e : ((pre.length : Int) ≤ ((pre ++ x :: r).length : Int)) = True := eq_true (by simp; omega)
    simp only [impl_areDifferent.l0, lt_mid, le_nat, if_true, rd_mid, wrap_mid pre x hl, isNumber_e x (n : Int) (by omega) (by omega), Option.bind_some, e, take_mid, L_ite, L_bind, has_L pre x hl, L_const]
    rw [app_cons pre x r, ih (pre ++ [x]) (by simpa using hb), ite_not_and, ite_and]
    rfl
theorem areDifferent_L (n : Nat) (l : List Int) (hn : n ≤ 1048576) (hl : l.length < 4611686018427387904) : L (fun k => impl_areDifferent.f k (n : Int) l) = some (diffB n [] l) := areDifferent_l n hn l [] (by simpa using hl)
def jobB (j : S37) : Bool := inB j.f0 1 50 && (inB j.f1 0 50 && (inB j.f2 0 500 && inB j.f3 0 500))
def goodB (l : List S37) : Bool := l.all jobB && decide ((l.length : Int) ≤ 8)
structure JobOk (j : S37) : Prop where
  t0 : 1 ≤ j.f0
  t1 : j.f0 ≤ 50
  w0 : 0 ≤ j.f1
  w1 : j.f1 ≤ 50
  r0 : 0 ≤ j.f2
  r1 : j.f2 ≤ 500
  d0 : 0 ≤ j.f3
  d1 : j.f3 ≤ 500
def Good (l : List S37) : Prop := l.length ≤ 8 ∧ ∀ j ∈ l, JobOk j
theorem goodB_iff {l : List S37} : goodB l = true ↔ Good l := by
  simp only [goodB, Good, Bool.and_eq_true, List.all_eq_true, decide_eq_true_eq, jobB, inB_iff]
  constructor
  · rintro ⟨h, hl⟩
    exact ⟨by omega, fun j hj => by
      obtain ⟨⟨a, b⟩, ⟨c, d⟩, ⟨e, f⟩, g, i⟩ := h j hj
      exact ⟨a, b, c, d, e, f, g, i⟩⟩
  · rintro ⟨hl, h⟩
    exact ⟨fun j hj => ⟨⟨(h j hj).t0, (h j hj).t1⟩, ⟨(h j hj).w0, (h j hj).w1⟩, ⟨(h j hj).r0, (h j hj).r1⟩, (h j hj).d0, (h j hj).d1⟩, by omega⟩
theorem l2Job_e (j : S37) : spec_l2Job.f j.f0 j.f1 j.f2 j.f3 = some (jobB j) := by
  simp only [spec_l2Job.f, l1In_e, Option.bind_some, ite_and, jobB]
theorem l2Good_l (r : List S37) : ∀ pre : List S37, (pre ++ r).length < 4611686018427387904 → L (fun k => spec_l2Good.l0 k (pre ++ r) (pre.length : Int)) = some (r.all jobB && decide (((pre ++ r).length : Int) ≤ 8)) := by
  induction r with
  | nil =>
    intro pre hb
    rw [L_shift]
    simp only [spec_l2Good.l0, not_lt_end, if_false, L_const]
    simp
  | cons x r ih =>
    intro pre hb
    rw [L_shift]
    have hl : pre.length < 4611686018427387904 := by simp at hb; omega
    have e : rd_T37 (pre ++ x :: r) (pre.length : Int) = x := getD_mid pre x r _
    simp only [spec_l2Good.l0, lt_mid, le_nat, if_true, e, wrap_mid pre x hl, l2Job_e, Option.bind_some, L_ite, L_const]
    rw [app_cons pre x r, ih (pre ++ [x]) (by simpa using hb), ite_and]
    rw [List.all_cons, Bool.and_assoc]
theorem l2Good_L (l : List S37) (h : l.length < 4611686018427387904) : L (fun k => spec_l2Good.f k l) = some (goodB l) := by
  have := l2Good_l l [] (by simpa using h)
  simpa [goodB, spec_l2Good.f] using this
theorem isDate_e (n : Int) : impl_isDate.f n = some (inB n 0 500) := by
  simp only [impl_isDate.f, within_e, Option.bind_some]
theorem IsJobs_l (r : List S37) : ∀ pre : List S37, (pre ++ r).length < 4611686018427387904 → L (fun k => impl_IsJobs.l0 k (pre ++ r) ((pre ++ r).length : Int) (pre.length : Int)) = some (r.all jobB) := by
  induction r with
  | nil =>
    intro pre hb
    rw [L_shift]
    simp only [impl_IsJobs.l0, not_lt_end, if_false, L_const]
    simp
  | cons x r ih =>
    intro pre hb
    rw [L_shift]
    have hl : pre.length < 4611686018427387904 := by simp at hb; omega
    have e : rd_T37 (pre ++ x :: r) (pre.length : Int) = x := getD_mid pre x r _
    simp only [impl_IsJobs.l0, lt_mid, le_nat, if_true, e, wrap_mid pre x hl, within_e, isDate_e, Option.bind_some, L_ite, L_const]
    rw [app_cons pre x r, ih (pre ++ [x]) (by simpa using hb)]
    simp only [ite_and, List.all_cons, jobB, Bool.and_assoc]
theorem IsJobs_L (l : List S37) (h : l.length < 4611686018427387904) : L (fun k => impl_IsJobs.f k l) = some (goodB l) := by
  have := IsJobs_l l [] (by simpa using h)
  simp only [List.nil_append, List.length_nil, Int.natCast_zero] at this
  simp only [impl_IsJobs.f, L_ite, L_const, this, goodB]
  by_cases h8 : (l.length : Int) ≤ 8
  · rw [if_neg (by omega)]
    simp [h8]
  · rw [if_pos (by omega)]
    simp [h8]
def jobAt (l : List S37) (x : Int) : S37 := l.getD x.toNat z37
theorem jobAt_mem {l : List S37} {x : Int} (h0 : 0 ≤ x) (h1 : x < l.length) : jobAt l x ∈ l := by
  unfold jobAt
  rw [List.getD_eq_getElem?_getD, List.getElem?_eq_getElem (by omega)]
  exact List.getElem_mem _
/-- The ends, put into out by the jobs' numbers. -/
def endsF (l : List S37) : List Int → List Int → Int → List Int
  | [], out, _ => out
  | x :: r, out, now => endsF l r (out.set x.toNat (max now (jobAt l x).f2 + (jobAt l x).f0)) (max now (jobAt l x).f2 + (jobAt l x).f0)
def startsF (l : List S37) : List Int → List Int → Int → List Int
  | [], out, _ => out
  | x :: r, out, now => startsF l r (out.set x.toNat (max now (jobAt l x).f2)) (max now (jobAt l x).f2 + (jobAt l x).f0)
def endsP (l : List S37) (o : List Int) : List Int := endsF l o (List.replicate l.length 0) 0
def startsP (l : List S37) (o : List Int) : List Int := startsF l o (List.replicate l.length 0) 0
def plainB (l : List S37) : Bool := l.all (fun j => decide (j.f2 = 0))
theorem isPlain_l (r : List S37) : ∀ pre : List S37, (pre ++ r).length < 4611686018427387904 → L (fun k => impl_isPlain.l0 k (pre ++ r) ((pre ++ r).length : Int) (pre.length : Int)) = some (plainB r) := by
  induction r with
  | nil =>
    intro pre hb
    rw [L_shift]
    simp only [impl_isPlain.l0, not_lt_end, if_false, L_const]
    rfl
  | cons x r ih =>
    intro pre hb
    rw [L_shift]
    have hl : pre.length < 4611686018427387904 := by simp at hb; omega
    have e : rd_T37 (pre ++ x :: r) (pre.length : Int) = x := getD_mid pre x r _
    simp only [impl_isPlain.l0, lt_mid, le_nat, if_true, e, wrap_mid pre x hl, L_ite, L_const]
    rw [app_cons pre x r, ih (pre ++ [x]) (by simpa using hb)]
    by_cases h : x.f2 = 0 <;> simp [h, plainB]
theorem isPlain_L (l : List S37) (h : l.length < 4611686018427387904) : L (fun k => impl_isPlain.f k l) = some (plainB l) := by
  have := isPlain_l l [] (by simpa using h)
  simpa [impl_isPlain.f] using this
theorem IsPlain_L (l : List S37) (h : l.length < 4611686018427387904) : L (fun k => impl_IsPlain.f k l) = some (goodB l && plainB l) := by
  simp only [impl_IsPlain.f, bind_self, L_bind, IsJobs_L l h, Option.bind_some, L_ite, isPlain_L l h, L_const, ite_and]
theorem l1Least_e (a b : Int) : spec_l1Least.f a b = some (mn a b) := by
  unfold spec_l1Least.f mn
  by_cases h : a < b
  · rw [if_pos h, if_neg (by omega)]
  · rw [if_neg h]
    by_cases h2 : b < a
    · rw [if_pos h2]
    · rw [if_neg h2]
      congr 1
      omega
theorem l4Free_l (r : List S37) : ∀ pre : List S37, (pre ++ r).length < 4611686018427387904 → L (fun k => spec_l4Free.l0 k (pre ++ r) (pre.length : Int)) = some (r.all (fun j => decide (j.f2 ≤ 0))) := by
  induction r with
  | nil =>
    intro pre hb
    rw [L_shift]
    simp only [spec_l4Free.l0, not_lt_end, if_false, L_const]
    rfl
  | cons x r ih =>
    intro pre hb
    rw [L_shift]
    have hl : pre.length < 4611686018427387904 := by simp at hb; omega
    have e : rd_T37 (pre ++ x :: r) (pre.length : Int) = x := getD_mid pre x r _
    simp only [spec_l4Free.l0, lt_mid, le_nat, if_true, e, wrap_mid pre x hl, L_ite, L_const]
    rw [app_cons pre x r, ih (pre ++ [x]) (by simpa using hb)]
    by_cases h : x.f2 > 0
    · have h2 : ¬ x.f2 ≤ 0 := by omega
      simp [h, h2]
    · have h2 : x.f2 ≤ 0 := by omega
      simp [h, h2]
theorem l6Good_L (l : List S37) (h : l.length < 4611686018427387904) : L (fun k => spec_l6Good.f k l) = some (goodB l && plainB l) := by
  have h4 := l4Free_l l [] (by simpa using h)
  simp only [List.nil_append, List.length_nil, Int.natCast_zero] at h4
  simp only [spec_l6Good.f, spec_l4Free.f, bind_self, L_bind, l2Good_L l h, Option.bind_some, L_ite, L_const]
  rw [h4, ite_and]
  congr 1
  cases hg : goodB l with
  | false => rfl
  | true =>
    have hg2 := (goodB_iff.1 hg).2
    simp only [Bool.true_and]
    rw [Bool.eq_iff_iff]
    simp only [plainB, List.all_eq_true, decide_eq_true_eq]
    constructor
    · intro h5 j hj
      have := h5 j hj
      have := (hg2 j hj).r0
      omega
    · intro h5 j hj
      have := h5 j hj
      omega
/-- Rising from y on. -/
def riseB : Int → List Int → Bool
  | _, [] => true
  | y, x :: r => decide (y < x) && riseB x r
def risesB : List Int → Bool
  | [] => true
  | x :: r => riseB x r
/-- A set of numbers of n things. -/
def setB (n : Nat) (l : List Int) : Bool := risesB l && l.all (fun x => inB x 0 ((n : Int) - 1))
theorem riseB_all : ∀ (y : Int) (r : List Int), riseB y r = true → (∀ x ∈ r, y < x) ∧ r.Nodup
  | y, [], _ => by simp
  | y, x :: r, h => by
    simp only [riseB, Bool.and_eq_true, decide_eq_true_eq] at h
    obtain ⟨h1, h2⟩ := riseB_all x r h.2
    refine ⟨?_, List.nodup_cons.2 ⟨fun hx => by have := h1 x hx; omega, h2⟩⟩
    intro z hz
    rcases List.mem_cons.1 hz with rfl | hz
    · exact h.1
    · have := h1 z hz
      omega
theorem risesB_nodup : ∀ l : List Int, risesB l = true → l.Nodup
  | [], _ => by simp
  | x :: r, h => by
    obtain ⟨h1, h2⟩ := riseB_all x r h
    exact List.nodup_cons.2 ⟨fun hx => by have := h1 x hx; omega, h2⟩
theorem setB_range {n : Nat} {l : List Int} (h : setB n l = true) : ∀ x ∈ l, 0 ≤ x ∧ x < n := by
  simp only [setB, Bool.and_eq_true, List.all_eq_true, inB_iff] at h
  intro x hx
  have := h.2 x hx
  omega
theorem setB_diff (n : Nat) (l : List Int) : (risesB l && diffB (n : Int) [] l) = setB n l := by
  unfold setB
  cases h : risesB l with
  | false => rfl
  | true =>
    simp only [Bool.true_and]
    rw [Bool.eq_iff_iff, diffB_iff]
    simp only [List.all_eq_true, inB_iff]
    constructor
    · intro h2 x hx
      have := h2.1 x hx
      omega
    · intro h2
      exact ⟨fun x hx => by have := h2 x hx; omega, risesB_nodup l h, by simp⟩
theorem last_idx {α : Type} (pre : List α) (y : α) (h : pre.length < 4611686018427387904) : wrap64 (((pre ++ [y]).length : Int) - 1) = (pre.length : Int) := by
  have e : ((pre ++ [y]).length : Int) = (pre.length : Int) + 1 := by simp
  rw [e, wrap_id (by omega) (by omega)]
  omega
theorem app_two {α : Type} (pre : List α) (y x : α) (r : List α) : pre ++ [y] ++ x :: r = pre ++ y :: x :: r := by simp
theorem lt_mid2 {α : Type} (pre : List α) (x y : α) (r : List α) : ((pre.length : Int) < ((pre ++ [x] ++ y :: r).length : Int)) = True := eq_true (by simp only [List.length_append, List.length_cons, List.length_nil]; omega)
theorem isRising_l (r : List Int) : ∀ (pre : List Int) (y : Int), (pre ++ [y] ++ r).length < 4611686018427387904 → L (fun k => impl_isRising.l0 k (pre ++ [y] ++ r) ((pre ++ [y]).length : Int)) = some (riseB y r) := by
  induction r with
  | nil =>
    intro pre y hb
    rw [L_shift]
    simp only [impl_isRising.l0, not_lt_end, if_false, L_const]
    rfl
  | cons x r ih =>
    intro pre y hb
    rw [L_shift]
    have hl : pre.length < 4611686018427387904 := by simp at hb; omega
    have hl2 : (pre ++ [y]).length < 4611686018427387904 := by simp at hb ⊢; omega
    have e : rd (pre ++ [y] ++ x :: r) (pre.length : Int) = y := by rw [app_two]; exact rd_mid pre y (x :: r)
    simp only [impl_isRising.l0, lt_mid, lt_mid2, le_nat, last_idx pre y hl, if_true, rd_mid, e, wrap_mid _ x hl2, L_ite, L_const]
    rw [app_cons (pre ++ [y]) x r, ih (pre ++ [y]) x (by simpa using hb)]
    by_cases h : y < x
    · rw [if_neg (by omega)]
      simp [riseB, h]
    · rw [if_pos (by omega)]
      simp [riseB, h]
theorem isRising_L (l : List Int) (h : l.length < 4611686018427387904) : L (fun k => impl_isRising.f k l) = some (risesB l) := by
  simp only [impl_isRising.f]
  cases l with
  | nil =>
    rw [L_shift]
    simp only [impl_isRising.l0, List.length_nil, if_neg (show ¬ ((1 : Int) < ((0 : Nat) : Int)) by omega), L_const]
    rfl
  | cons x r => exact isRising_l r [] x (by simpa using h)
theorem isSet_L (n : Nat) (l : List Int) (hn : n ≤ 1048576) (hl : l.length < 4611686018427387904) : L (fun k => impl_isSet.f k (n : Int) l) = some (setB n l) := by
  simp only [impl_isSet.f, bind_self, L_bind, isRising_L l hl, Option.bind_some, L_ite, areDifferent_L n l hn hl, L_const, ite_and, setB_diff]
theorem l1Rising_l (lo hi : Int) (r : List Int) : ∀ (pre : List Int) (y : Int), (pre ++ [y] ++ r).length < 4611686018427387904 → L (fun k => spec_l1Rising.l0 k (pre ++ [y] ++ r) lo hi ((pre ++ [y]).length : Int)) = some (riseB y r && r.all (fun x => inB x lo hi)) := by
  induction r with
  | nil =>
    intro pre y hb
    rw [L_shift]
    simp only [spec_l1Rising.l0, not_lt_end, if_false, L_const]
    rfl
  | cons x r ih =>
    intro pre y hb
    rw [L_shift]
    have hl : pre.length < 4611686018427387904 := by simp at hb; omega
    have hl2 : (pre ++ [y]).length < 4611686018427387904 := by simp at hb ⊢; omega
    have e : rd (pre ++ [y] ++ x :: r) (pre.length : Int) = y := by rw [app_two]; exact rd_mid pre y (x :: r)
    have e3 : (((pre ++ [y]).length : Int) > 0) = True := eq_true (by simp only [List.length_append, List.length_cons, List.length_nil]; omega)
    simp only [spec_l1Rising.l0, lt_mid, lt_mid2, le_nat, last_idx pre y hl, if_true, rd_mid, e, e3, wrap_mid _ x hl2, l1In_e, Option.bind_some, L_ite, L_const]
    rw [app_cons (pre ++ [y]) x r, ih (pre ++ [y]) x (by simpa using hb)]
    simp only [riseB, List.all_cons]
    generalize r.all (fun x => inB x lo hi) = A
    generalize riseB x r = B
    by_cases h : y < x
    · rw [if_neg (show ¬ (y ≥ x) by omega)]
      cases inB x lo hi <;> cases A <;> cases B <;> simp [h]
    · rw [if_pos (show y ≥ x by omega)]
      cases inB x lo hi <;> simp [h]
theorem l1Rising_L (l : List Int) (lo hi : Int) (h : l.length < 4611686018427387904) : L (fun k => spec_l1Rising.f k l lo hi) = some (risesB l && l.all (fun x => inB x lo hi)) := by
  simp only [spec_l1Rising.f]
  cases l with
  | nil =>
    rw [L_shift]
    simp only [spec_l1Rising.l0, List.length_nil, Int.natCast_zero, Int.lt_irrefl, if_false, L_const]
    rfl
  | cons x r =>
    rw [L_shift]
    have := l1Rising_l lo hi r [] x (by simpa using h)
    simp only [List.nil_append, List.singleton_append, List.length_singleton, Int.natCast_one] at this
    have e : rd (x :: r) 0 = x := rfl
    have e2 : ((0 : Int) < ((x :: r).length : Int)) = True := eq_true (by simp only [List.length_append, List.length_cons, List.length_nil]; omega)
    have e3 : wrap64 ((0 : Int) + 1) = 1 := (wrap_id (by omega) (by omega)).trans (by omega)
    simp only [spec_l1Rising.l0, e2, Int.le_refl, if_true, e, e3, l1In_e, Option.bind_some, show ¬ ((0 : Int) > 0) by omega, if_false, L_ite, L_const, this]
    simp only [risesB, List.all_cons]
    generalize r.all (fun x => inB x lo hi) = A
    generalize riseB x r = B
    cases inB x lo hi <;> cases A <;> cases B <;> simp
theorem l6Set_L (l : List S37) (s : List Int) (hn : l.length ≤ 1048576) (hl : s.length < 4611686018427387904) : L (fun k => spec_l6Set.f k l s) = some (setB l.length s) := by
  simp only [spec_l6Set.f, bind_self]
  rw [wrap_id (show -9223372036854775808 ≤ (l.length : Int) - 1 by omega) (by omega)]
  exact l1Rising_L s 0 _ hl
theorem perm_sorted_eq (R : Int → Int → Prop) (h : ∀ a b, R a b → R b a → a = b) : ∀ s t : List Int, s.Perm t → s.Pairwise R → t.Pairwise R → s = t
  | [], t, hp, _, _ => (List.Perm.nil_eq hp)
  | a :: s, t, hp, hs, ht => by
    cases t with
    | nil => exact absurd hp.length_eq (by simp)
    | cons b t =>
      have hs' := List.pairwise_cons.1 hs
      have ht' := List.pairwise_cons.1 ht
      have e : a = b := by
        have ha : a ∈ b :: t := hp.subset List.mem_cons_self
        have hb : b ∈ a :: s := hp.symm.subset List.mem_cons_self
        rcases List.mem_cons.1 ha with e | ha
        · exact e
        · rcases List.mem_cons.1 hb with e | hb
          · exact e.symm
          · exact h a b (hs'.1 b hb) (ht'.1 a ha)
      subst e
      rw [perm_sorted_eq R h s t (List.Perm.cons_inv hp) hs'.2 ht'.2]
theorem insK_spec (p : Int → Int → Option Bool) (q : Int → Int → Bool) (x : Int) (out : List Int) (hp : ∀ y ∈ out, p x y = some (q x y)) : ∀ n, n ≤ out.length → ∃ k, k ≤ n ∧ impl_sortedBy.insK p x out n = some k ∧ (∀ j, k ≤ j → j < n → q x (out.getD j 0) = true) ∧ (0 < k → q x (out.getD (k - 1) 0) = false)
  | 0, _ => ⟨0, Nat.le_refl _, rfl, fun j h1 h2 => absurd h2 (by omega), fun h => absurd h (by omega)⟩
  | n + 1, hn => by
    have e : rd out (n : Int) = out.getD n 0 := by simp [rd]
    have hm : out.getD n 0 ∈ out := by
      rw [List.getD_eq_getElem?_getD, List.getElem?_eq_getElem (by omega)]
      exact List.getElem_mem _
    simp only [impl_sortedBy.insK, e, hp _ hm, Option.bind_some]
    by_cases hq : q x (out.getD n 0) = true
    · rw [if_pos hq]
      obtain ⟨k, h1, h2, h3, h4⟩ := insK_spec p q x out hp n (by omega)
      refine ⟨k, by omega, h2, fun j h5 h6 => ?_, h4⟩
      by_cases hj : j = n
      · subst hj; exact hq
      · exact h3 j h5 (by omega)
    · rw [if_neg hq]
      refine ⟨n + 1, Nat.le_refl _, rfl, fun j h1 h2 => absurd h2 (by omega), fun _ => ?_⟩
      simpa using hq
theorem insL_perm (out : List Int) (k : Nat) (x : Int) : (impl_sortedBy.insL out k x).Perm (x :: out) := by
  unfold impl_sortedBy.insL
  have h : (out.take k ++ x :: out.drop k).Perm (x :: (out.take k ++ out.drop k)) := List.perm_middle
  rwa [List.take_append_drop] at h
/-- Stable insertion keeps a row in order (no later one is ahead of an earlier one). -/
theorem insL_sorted (q : Int → Int → Bool) (tr : ∀ a b c, q b a = false → q c b = false → q c a = false) (asy : ∀ a b, q a b = true → q b a = false) (x : Int) (out : List Int) (k : Nat) (hk : k ≤ out.length) (hs : out.Pairwise (fun a b => q b a = false))
    (h1 : ∀ j, k ≤ j → j < out.length → q x (out.getD j 0) = true) (h2 : 0 < k → q x (out.getD (k - 1) 0) = false) : (impl_sortedBy.insL out k x).Pairwise (fun a b => q b a = false) := by
  unfold impl_sortedBy.insL
  have hs2 := hs
  rw [← List.take_append_drop k out] at hs2
  obtain ⟨ha, hb, hab⟩ := List.pairwise_append.1 hs2
  have hL : ∀ a ∈ out.take k, q x a = false := by
    intro a hm
    obtain ⟨i, hi, rfl⟩ := List.getElem_of_mem hm
    have hi' : i < k := by rw [List.length_take] at hi; omega
    have hz := h2 (by omega)
    rw [List.getElem_take]
    by_cases he : i = k - 1
    · subst he
      rw [List.getD_eq_getElem?_getD, List.getElem?_eq_getElem (by omega)] at hz
      simpa using hz
    · have hr := (List.pairwise_iff_getElem.1 hs) i (k - 1) (by omega) (by omega) (by omega)
      rw [List.getD_eq_getElem?_getD, List.getElem?_eq_getElem (show k - 1 < out.length by omega)] at hz
      exact tr _ _ _ hr (by simpa using hz)
  have hR : ∀ b ∈ out.drop k, q b x = false := by
    intro b hm
    obtain ⟨i, hi, rfl⟩ := List.getElem_of_mem hm
    have hi' : k + i < out.length := by rw [List.length_drop] at hi; omega
    rw [List.getElem_drop]
    have hz := h1 (k + i) (by omega) hi'
    rw [List.getD_eq_getElem?_getD, List.getElem?_eq_getElem hi'] at hz
    exact asy _ _ (by simpa using hz)
  refine List.pairwise_append.2 ⟨ha, List.pairwise_cons.2 ⟨hR, hb⟩, ?_⟩
  intro a hm b hmb
  rcases List.mem_cons.1 hmb with rfl | hmb
  · exact hL a hm
  · exact hab a hm b hmb
theorem nodup_bd : ∀ (n : Nat) (x : List Int), x.Nodup → (∀ a ∈ x, 0 ≤ a ∧ a < (n : Int)) → x.length ≤ n
  | 0, x, _, h => by
    cases x with
    | nil => exact Nat.le_refl _
    | cons a x => have := h a List.mem_cons_self; omega
  | n + 1, x, hn, h => by
    by_cases hm : (n : Int) ∈ x
    · have hp := List.perm_cons_erase hm
      have hn2 := List.nodup_cons.1 (hp.nodup_iff.1 hn)
      have ih := nodup_bd n (x.erase (n : Int)) hn2.2 (fun a ha => by
        have h1 := h a (List.mem_of_mem_erase ha)
        have h2 : a ≠ (n : Int) := fun e => by rw [e] at ha; exact hn2.1 ha
        omega)
      have := hp.length_eq
      simp only [List.length_cons] at this
      omega
    · have ih := nodup_bd n x hn (fun a ha => by
        have h1 := h a ha
        have h2 : a ≠ (n : Int) := fun e => by rw [e] at ha; exact hm ha
        omega)
      omega
/-- The same over a rising row: the order asked of a later and an earlier number alone. -/
theorem sortO_asc (p : Int → Int → Option Bool) (q : Int → Int → Bool) (P : Int → Prop) (hp : ∀ a b, P a → P b → b < a → p a b = some (q a b)) (tr : ∀ a b c, q b a = false → q c b = false → q c a = false) (asy : ∀ a b, q a b = true → q b a = false) : ∀ (l out : List Int), l.Pairwise (· < ·) → (∀ x ∈ l, ∀ y ∈ out, y < x) → (∀ x ∈ l, P x) → (∀ x ∈ out, P x) → out.Pairwise (fun a b => q b a = false) →
    ∃ s, impl_sortedBy.sortO p l out = some s ∧ s.Perm (out ++ l) ∧ s.Pairwise (fun a b => q b a = false)
  | [], out, _, _, _, _, hs => ⟨out, rfl, by rw [List.append_nil], hs⟩
  | x :: l, out, ha, hlt, hl, ho, hs => by
    have ha' := List.pairwise_cons.1 ha
    obtain ⟨k, h1, h2, h3, h4⟩ := insK_spec p q x out (fun y hy => hp x y (hl x List.mem_cons_self) (ho y hy) (hlt x List.mem_cons_self y hy)) out.length (Nat.le_refl _)
    have hpm := insL_perm out k x
    obtain ⟨s, e1, e2, e3⟩ := sortO_asc p q P hp tr asy l (impl_sortedBy.insL out k x) ha'.2 (fun z hz y hy => by
      rcases List.mem_cons.1 (hpm.subset hy) with rfl | hy
      · exact ha'.1 z hz
      · exact hlt z (List.mem_cons_of_mem _ hz) y hy) (fun y hy => hl y (List.mem_cons_of_mem _ hy)) (fun y hy => by
      rcases List.mem_cons.1 (hpm.subset hy) with rfl | hy
      · exact hl _ List.mem_cons_self
      · exact ho y hy) (insL_sorted q tr asy x out k h1 hs h3 h4)
    refine ⟨s, ?_, ?_, e3⟩
    · simp only [impl_sortedBy.sortO, h2, Option.bind_some]
      exact e1
    · refine e2.trans ((hpm.append_right l).trans ?_)
      exact (List.perm_middle (l₁ := out) (a := x) (l₂ := l)).symm
/-- Sooner: by date, then by number. -/
def dueQ (l : List S37) (a b : Int) : Bool := decide ((jobAt l a).f3 < (jobAt l b).f3) || (decide ((jobAt l a).f3 = (jobAt l b).f3) && decide (a < b))
theorem dueQ_iff (l : List S37) (a b : Int) : dueQ l a b = true ↔ (jobAt l a).f3 < (jobAt l b).f3 ∨ ((jobAt l a).f3 = (jobAt l b).f3 ∧ a < b) := by
  simp [dueQ]
theorem dueQ_false (l : List S37) (a b : Int) : dueQ l a b = false ↔ ¬ ((jobAt l a).f3 < (jobAt l b).f3 ∨ ((jobAt l a).f3 = (jobAt l b).f3 ∧ a < b)) := by
  rw [← dueQ_iff]
  simp
theorem dueQ_tr (l : List S37) (a b c : Int) (h1 : dueQ l b a = false) (h2 : dueQ l c b = false) : dueQ l c a = false := by
  rw [dueQ_false] at *
  omega
theorem dueQ_asy (l : List S37) (a b : Int) (h : dueQ l a b = true) : dueQ l b a = false := by
  rw [dueQ_false]
  rw [dueQ_iff] at h
  omega
theorem dueQ_anti (l : List S37) (a b : Int) (h1 : dueQ l b a = false) (h2 : dueQ l a b = false) : a = b := by
  rw [dueQ_false] at *
  omega
/-- Whether no job of an order is late that starts at t. -/
def timF (l : List S37) : Int → List Int → Bool
  | _, [] => true
  | t, x :: r => decide (t + (jobAt l x).f0 ≤ (jobAt l x).f3) && timF l (t + (jobAt l x).f0) r
def sumD (l : List S37) (d : Int) : List Int → Int
  | [] => 0
  | x :: r => (if (jobAt l x).f3 ≤ d then (jobAt l x).f0 else 0) + sumD l d r
theorem sumD_perm (l : List S37) (d : Int) : ∀ {s t : List Int}, s.Perm t → sumD l d s = sumD l d t := by
  intro s t h
  induction h with
  | nil => rfl
  | cons x _ ih => simp only [sumD, ih]
  | swap x y r => simp only [sumD]; omega
  | trans _ _ h1 h2 => exact h1.trans h2
theorem sumD_nn (l : List S37) (d : Int) : ∀ (s : List Int), (∀ x ∈ s, 0 ≤ (jobAt l x).f0) → 0 ≤ sumD l d s
  | [], _ => Int.le_refl _
  | x :: r, h => by
    have h1 := sumD_nn l d r (fun y hy => h y (List.mem_cons_of_mem _ hy))
    have h2 := h x List.mem_cons_self
    simp only [sumD]
    split <;> omega
theorem sumD_none (l : List S37) (d : Int) : ∀ (s : List Int), (∀ x ∈ s, d < (jobAt l x).f3) → sumD l d s = 0
  | [], _ => rfl
  | x :: r, h => by
    have h1 := sumD_none l d r (fun y hy => h y (List.mem_cons_of_mem _ hy))
    have h2 := h x List.mem_cons_self
    simp only [sumD, h1, if_neg (show ¬ (jobAt l x).f3 ≤ d by omega)]
    rfl
/-- Told of the set alone: what is due by any job's date is done by then. -/
theorem timF_iff (l : List S37) : ∀ (s : List Int) (t : Int), (∀ x ∈ s, 0 ≤ (jobAt l x).f0) → s.Pairwise (fun a b => (jobAt l a).f3 ≤ (jobAt l b).f3) → (timF l t s = true ↔ ∀ x ∈ s, t + sumD l (jobAt l x).f3 s ≤ (jobAt l x).f3)
  | [], t, _, _ => by simp [timF]
  | x :: r, t, h0, hs => by
    have hs' := List.pairwise_cons.1 hs
    have h0' : ∀ y ∈ r, 0 ≤ (jobAt l y).f0 := fun y hy => h0 y (List.mem_cons_of_mem _ hy)
    have ih := timF_iff l r (t + (jobAt l x).f0) h0' hs'.2
    have ec : ∀ y ∈ r, sumD l (jobAt l y).f3 (x :: r) = (jobAt l x).f0 + sumD l (jobAt l y).f3 r := fun y hy => by
      simp only [sumD, if_pos (hs'.1 y hy)]
    have ex : sumD l (jobAt l x).f3 (x :: r) = (jobAt l x).f0 + sumD l (jobAt l x).f3 r := by
      simp only [sumD, if_pos (Int.le_refl _)]
    have hnn := sumD_nn l (jobAt l x).f3 r h0'
    simp only [timF, Bool.and_eq_true, decide_eq_true_eq, ih]
    constructor
    · rintro ⟨h1, h2⟩ y hy
      rcases List.mem_cons.1 hy with rfl | hy
      · rw [ex]
        by_cases hz : ∃ z ∈ r, (jobAt l z).f3 ≤ (jobAt l y).f3
        · obtain ⟨z, hz, hd⟩ := hz
          have h3 := h2 z hz
          have h4 := hs'.1 z hz
          have e : (jobAt l z).f3 = (jobAt l y).f3 := by omega
          rw [e] at h3
          omega
        · rw [sumD_none l _ r (fun z hz' => by
            have : ¬ (jobAt l z).f3 ≤ (jobAt l y).f3 := fun h => hz ⟨z, hz', h⟩
            omega)]
          omega
      · have h3 := h2 y hy
        rw [ec y hy]
        omega
    · intro h
      have h1 := h x List.mem_cons_self
      rw [ex] at h1
      refine ⟨by omega, fun y hy => ?_⟩
      have h3 := h y (List.mem_cons_of_mem _ hy)
      rw [ec y hy] at h3
      omega
theorem timF_perm (l : List S37) (t : Int) {s1 s2 : List Int} (hp : s1.Perm s2) (h0 : ∀ x ∈ s1, 0 ≤ (jobAt l x).f0) (o1 : s1.Pairwise (fun a b => (jobAt l a).f3 ≤ (jobAt l b).f3)) (o2 : s2.Pairwise (fun a b => (jobAt l a).f3 ≤ (jobAt l b).f3)) : timF l t s1 = timF l t s2 := by
  rw [Bool.eq_iff_iff, timF_iff l s1 t h0 o1, timF_iff l s2 t (fun x hx => h0 x (hp.symm.subset hx)) o2]
  constructor
  · intro h x hx
    rw [← sumD_perm l _ hp]
    exact h x (hp.symm.subset hx)
  · intro h x hx
    rw [sumD_perm l _ hp]
    exact h x (hp.subset hx)
theorem riseB_asc : ∀ (y : Int) (r : List Int), riseB y r = true → (y :: r).Pairwise (· < ·)
  | y, [], _ => by simp
  | y, x :: r, h => by
    have h1 := riseB_all y (x :: r) h
    simp only [riseB, Bool.and_eq_true] at h
    exact List.pairwise_cons.2 ⟨h1.1, riseB_asc x r (by first | exact h.2 | exact h.1)⟩
theorem setB_asc {n : Nat} {l : List Int} (h : setB n l = true) : l.Pairwise (· < ·) := by
  cases l with
  | nil => exact List.Pairwise.nil
  | cons x r =>
    simp only [setB, Bool.and_eq_true, risesB] at h
    exact riseB_asc x r h.1
theorem ins_sorted (q : Int → Int → Bool) (tr : ∀ a b c, q b a = false → q c b = false → q c a = false) (asy : ∀ a b, q a b = true → q b a = false) (x : Int) (out : List Int) (k : Nat) (hk : k ≤ out.length) (hs : out.Pairwise (fun a b => q b a = false)) (hL : ∀ j, j < k → q (out.getD j 0) x = true) (hR : k < out.length → q (out.getD k 0) x = false) : (out.take k ++ x :: out.drop k).Pairwise (fun a b => q b a = false) := by
  have hs2 := hs
  rw [← List.take_append_drop k out] at hs2
  obtain ⟨ha, hb, hab⟩ := List.pairwise_append.1 hs2
  have hLL : ∀ a ∈ out.take k, q x a = false := by
    intro a hm
    obtain ⟨j, hj, e⟩ := List.mem_take_iff_getElem.1 hm
    have h1 := hL j (by omega)
    rw [List.getD_eq_getElem?_getD, List.getElem?_eq_getElem (by omega), Option.getD_some, e] at h1
    exact asy _ _ h1
  have hRR : ∀ b ∈ out.drop k, q b x = false := by
    intro b hm
    by_cases hkl : k < out.length
    · have h0 := hR hkl
      rw [List.getD_eq_getElem?_getD, List.getElem?_eq_getElem hkl, Option.getD_some] at h0
      rw [List.drop_eq_getElem_cons hkl] at hm hb
      rcases List.mem_cons.1 hm with rfl | hm
      · exact h0
      · exact tr _ _ _ h0 ((List.pairwise_cons.1 hb).1 b hm)
    · rw [List.drop_eq_nil_of_le (by omega)] at hm
      cases hm
  refine List.pairwise_append.2 ⟨ha, List.pairwise_cons.2 ⟨hRR, hb⟩, ?_⟩
  intro a hm b hmb
  rcases List.mem_cons.1 hmb with rfl | hmb
  · exact hLL a hm
  · exact hab a hm b hmb
theorem ins_perm (out : List Int) (k : Nat) (x : Int) : (out.take k ++ x :: out.drop k).Perm (x :: out) := by
  have h : (out.take k ++ x :: out.drop k).Perm (x :: (out.take k ++ out.drop k)) := List.perm_middle
  rwa [List.take_append_drop] at h
/-- Sooner: by date, then by time, then by number. -/
def soonQ (l : List S37) (a b : Int) : Bool := decide ((jobAt l a).f3 < (jobAt l b).f3) || (decide ((jobAt l a).f3 = (jobAt l b).f3) && (decide ((jobAt l a).f0 < (jobAt l b).f0) || (decide ((jobAt l a).f0 = (jobAt l b).f0) && decide (a < b))))
theorem soonQ_iff (l : List S37) (a b : Int) : soonQ l a b = true ↔ (jobAt l a).f3 < (jobAt l b).f3 ∨ ((jobAt l a).f3 = (jobAt l b).f3 ∧ ((jobAt l a).f0 < (jobAt l b).f0 ∨ ((jobAt l a).f0 = (jobAt l b).f0 ∧ a < b))) := by
  simp [soonQ]
theorem soonQ_false (l : List S37) (a b : Int) : soonQ l a b = false ↔ ¬ ((jobAt l a).f3 < (jobAt l b).f3 ∨ ((jobAt l a).f3 = (jobAt l b).f3 ∧ ((jobAt l a).f0 < (jobAt l b).f0 ∨ ((jobAt l a).f0 = (jobAt l b).f0 ∧ a < b)))) := by
  rw [← soonQ_iff]
  simp
theorem soonQ_tr (l : List S37) (a b c : Int) (h1 : soonQ l b a = false) (h2 : soonQ l c b = false) : soonQ l c a = false := by
  rw [soonQ_false] at *
  omega
theorem soonQ_asy (l : List S37) (a b : Int) (h : soonQ l a b = true) : soonQ l b a = false := by
  rw [soonQ_false]
  rw [soonQ_iff] at h
  omega
theorem l6Sooner_e (l : List S37) (a b : Int) (ha : 0 ≤ a ∧ a < (l.length : Int)) (hb : 0 ≤ b ∧ b < (l.length : Int)) : spec_l6Sooner.f l a b = some (soonQ l a b) := by
  have e : ∀ x, rd_T37 l x = jobAt l x := fun _ => rfl
  simp only [spec_l6Sooner.f, if_pos ha.1, if_pos ha.2, if_pos hb.1, if_pos hb.2, e, soonQ]
  by_cases h1 : (jobAt l a).f3 = (jobAt l b).f3
  · by_cases h2 : (jobAt l a).f0 = (jobAt l b).f0
    · simp [h1, h2]
    · simp [h1, h2]
  · simp [h1]
theorem l6pos_spec (l : List S37) (x : Int) (hx : 0 ≤ x ∧ x < (l.length : Int)) : ∀ (out : List Int), (∀ y ∈ out, 0 ≤ y ∧ y < (l.length : Int)) → ∃ k, spec_l6Due.posR l x out = some k ∧ k ≤ out.length ∧ (∀ j, j < k → soonQ l (out.getD j 0) x = true) ∧ (k < out.length → soonQ l (out.getD k 0) x = false)
  | [], _ => ⟨0, rfl, Nat.le_refl _, fun j hj => absurd hj (by omega), fun h => absurd h (by simp)⟩
  | y :: r, ho => by
    obtain ⟨k, h1, h2, h3, h4⟩ := l6pos_spec l x hx r (fun z hz => ho z (List.mem_cons_of_mem _ hz))
    have hy := ho y List.mem_cons_self
    simp only [spec_l6Due.posR, l6Sooner_e l y x hy hx, Option.bind_some, h1, Option.map_some]
    by_cases hq : soonQ l y x = true
    · refine ⟨k + 1, by rw [if_pos hq], by simpa using h2, fun j hj => ?_, fun h => by simpa using h4 (by simpa using h)⟩
      cases j with
      | zero => simpa using hq
      | succ j => simpa using h3 j (by omega)
    · exact ⟨0, by rw [if_neg hq], Nat.zero_le _, fun j hj => absurd hj (by omega), fun _ => by simpa using hq⟩
theorem l6go_spec (l : List S37) : ∀ (rest out : List Int), (∀ y ∈ rest, 0 ≤ y ∧ y < (l.length : Int)) → (∀ y ∈ out, 0 ≤ y ∧ y < (l.length : Int)) → out.Pairwise (fun a b => soonQ l b a = false) → ∃ s, spec_l6Due.go l rest out = some s ∧ s.Perm (out ++ rest) ∧ s.Pairwise (fun a b => soonQ l b a = false)
  | [], out, _, _, hs => ⟨out, rfl, by rw [List.append_nil], hs⟩
  | x :: r, out, hr, ho, hs => by
    have hx := hr x List.mem_cons_self
    obtain ⟨k, h1, h2, h3, h4⟩ := l6pos_spec l x hx out ho
    have hp := ins_perm out k x
    obtain ⟨s, s1, s2, s3⟩ := l6go_spec l r (out.take k ++ x :: out.drop k) (fun y hy => hr y (List.mem_cons_of_mem _ hy)) (fun y hy => by
      rcases List.mem_cons.1 (hp.subset hy) with rfl | hy
      · exact hx
      · exact ho y hy) (ins_sorted (soonQ l) (soonQ_tr l) (soonQ_asy l) x out k h2 hs h3 h4)
    refine ⟨s, by simp only [spec_l6Due.go, h1, Option.bind_some]; exact s1, ?_, s3⟩
    refine s2.trans ((hp.append_right r).trans ?_)
    exact (List.perm_middle (l₁ := out) (a := x) (l₂ := r)).symm
theorem l6Due_e (l : List S37) (s : List Int) (hs : ∀ y ∈ s, 0 ≤ y ∧ y < (l.length : Int)) (hl : s.length ≤ 1000000) : ∃ o, spec_l6Due.f l s = some o ∧ o.Perm s ∧ o.Pairwise (fun a b => soonQ l b a = false) := by
  obtain ⟨o, h1, h2, h3⟩ := l6go_spec l s [] hs (by simp) List.Pairwise.nil
  exact ⟨o, by rw [spec_l6Due.f, if_pos hl]; exact h1, by simpa using h2, h3⟩
theorem l6Timely_l (l : List S37) (hg : Good l) : ∀ (r pre : List Int) (t : Int), (∀ x ∈ r, 0 ≤ x ∧ x < (l.length : Int)) → (pre ++ r).length ≤ 1000000 → 0 ≤ t → t + 50 * (r.length : Int) ≤ 1000000000 → L (fun k => spec_l6Timely.l0 k l (pre ++ r) t (pre.length : Int)) = some (timF l t r)
  | [], pre, t, hr, hl, h0, h1 => by
    rw [L_shift]
    simp only [spec_l6Timely.l0, not_lt_end, if_false, L_const, timF]
  | x :: r, pre, t, hr, hl, h0, h1 => by
    rw [L_shift]
    have hx := hr x List.mem_cons_self
    have hj := hg.2 _ (jobAt_mem hx.1 hx.2)
    have t0 := hj.t0
    have t1 := hj.t1
    have e : rd (pre ++ x :: r) (pre.length : Int) = x := getD_mid pre x r _
    have ej : rd_T37 l x = jobAt l x := rfl
    have hp : pre.length < 4611686018427387904 := by simp at hl; omega
    simp only [List.length_cons] at h1
    have ih := l6Timely_l l hg r (pre ++ [x]) (t + (jobAt l x).f0) (fun y hy => hr y (List.mem_cons_of_mem _ hy)) (by simpa using hl) (by omega) (by omega)
    simp only [spec_l6Timely.l0, lt_mid, le_nat, if_true, e, if_pos hx.1, if_pos hx.2, ej, wrap_id (show -9223372036854775808 ≤ t + (jobAt l x).f0 by omega) (show t + (jobAt l x).f0 ≤ 9223372036854775807 by omega), wrap_mid pre x hp, L_ite, L_const]
    rw [app_cons pre x r, ih, timF]
    by_cases hd : t + (jobAt l x).f0 > (jobAt l x).f3
    · rw [if_pos hd, decide_eq_false (by omega), Bool.false_and]
    · rw [if_neg hd, decide_eq_true (by omega), Bool.true_and]
theorem onTime_go (l : List S37) (hg : Good l) : ∀ (r : List Int) (t : Int), (∀ x ∈ r, 0 ≤ x ∧ x < (l.length : Int)) → 0 ≤ t → t + 50 * (r.length : Int) ≤ 1000000000 → impl_onTime.go l r t = some (timF l t r)
  | [], t, _, _, _ => rfl
  | x :: r, t, hr, h0, h1 => by
    have hx := hr x List.mem_cons_self
    have hj := hg.2 _ (jobAt_mem hx.1 hx.2)
    have t0 := hj.t0
    have t1 := hj.t1
    have ej : rd_T37 l x = jobAt l x := rfl
    simp only [List.length_cons] at h1
    have ih := onTime_go l hg r (t + (jobAt l x).f0) (fun y hy => hr y (List.mem_cons_of_mem _ hy)) (by omega) (by omega)
    rw [impl_onTime.go, if_pos hx, ej, wrap_id (show -9223372036854775808 ≤ t + (jobAt l x).f0 by omega) (show t + (jobAt l x).f0 ≤ 9223372036854775807 by omega), ih, timF]
    by_cases hd : t + (jobAt l x).f0 > (jobAt l x).f3
    · rw [if_pos hd, decide_eq_false (by omega), Bool.false_and]
    · rw [if_neg hd, decide_eq_true (by omega), Bool.true_and]
/-- The set in the order of its dates: whether none is late, told by the reference and by the program. -/
theorem timely_both (l : List S37) (hg : Good l) (s : List Int) (hs : ∀ y ∈ s, 0 ≤ y ∧ y < (l.length : Int)) (ha : s.Pairwise (· < ·)) (hl : s.length ≤ 1000) : ∃ b, L (fun k => spec_l6Timely.f k l s) = some b ∧ impl_onTime.f l s = some b := by
  obtain ⟨o, h1, h2, h3⟩ := l6Due_e l s hs (by omega)
  have e : ∀ x, rd_T37 l x = jobAt l x := fun _ => rfl
  obtain ⟨t, t1, t2, t3⟩ := sortO_asc (impl_onTime_1.p l) (dueQ l) (fun x => 0 ≤ x ∧ x < (l.length : Int)) (fun a b ha hb hba => by
    rw [impl_onTime_1.p, if_pos ⟨ha.1, ha.2, hb.1, hb.2⟩, e, e, dueQ, decide_eq_false (show ¬ a < b by omega), Bool.and_false, Bool.or_false]) (dueQ_tr l) (dueQ_asy l) s [] ha (by simp) hs (by simp) List.Pairwise.nil
  have t2' : t.Perm s := by simpa using t2
  have ho : ∀ y ∈ o, 0 ≤ y ∧ y < (l.length : Int) := fun y hy => hs y (h2.subset hy)
  have ht : ∀ y ∈ t, 0 ≤ y ∧ y < (l.length : Int) := fun y hy => hs y (t2'.subset hy)
  have lo := h2.length_eq
  have lt := t2'.length_eq
  have g1 := l6Timely_l l hg o [] 0 ho (by simp; omega) (by omega) (by omega)
  have g2 := onTime_go l hg t 0 ht (by omega) (by omega)
  simp only [List.nil_append, List.length_nil, Int.natCast_zero] at g1
  have hsame : timF l 0 o = timF l 0 t := timF_perm l 0 (h2.trans t2'.symm) (fun x hx => by
    have := (hg.2 _ (jobAt_mem (ho x hx).1 (ho x hx).2)).t0
    omega) (h3.imp (fun h => by rw [soonQ_false] at h; omega)) (t3.imp (fun h => by rw [dueQ_false] at h; omega))
  refine ⟨timF l 0 o, ?_, ?_⟩
  · simp only [spec_l6Timely.f, h1, Option.bind_some, g1]
  · rw [impl_onTime.f, if_pos (by omega), t1, Option.bind_some, g2, hsame]
def unitB (l : List S37) : Bool := l.all (fun j => decide (j.f0 = 1))
theorem l10Unit_l : ∀ (r pre : List S37), (pre ++ r).length ≤ 1048576 → L (fun k => spec_l10Unit.l0 k (pre ++ r) (pre.length : Int)) = some (unitB r && (goodB (pre ++ r) && plainB (pre ++ r)))
  | [], pre, hl => by
    rw [L_shift]
    simp only [spec_l10Unit.l0, not_lt_end, if_false, L_bind, l6Good_L (pre ++ []) (by omega), Option.bind_some, L_const]
    simp [unitB]
  | y :: r, pre, hl => by
    rw [L_shift]
    have e : rd_T37 (pre ++ y :: r) (pre.length : Int) = y := getD_mid pre y r _
    have hp2 : pre.length < 4611686018427387904 := by simp at hl; omega
    have ih := l10Unit_l r (pre ++ [y]) (by simpa using hl)
    rw [← app_cons pre y r] at ih
    simp only [spec_l10Unit.l0, lt_mid, le_nat, if_true, e, wrap_mid pre y hp2, L_ite, L_const, ih]
    have eu : unitB (y :: r) = (decide (y.f0 = 1) && unitB r) := rfl
    rw [eu]
    by_cases hx : y.f0 = 1
    · rw [if_pos hx, decide_eq_true hx, Bool.true_and]
    · rw [if_neg hx, decide_eq_false hx, Bool.false_and, Bool.false_and]
theorem l10Unit_L (l : List S37) (h : l.length ≤ 1048576) : L (fun k => spec_l10Unit.f k l) = some (unitB l && (goodB l && plainB l)) := by
  have := l10Unit_l l [] (by simpa using h)
  simpa [spec_l10Unit.f] using this
theorem areUnit_l : ∀ (r pre : List S37), (pre ++ r).length ≤ 1048576 → L (fun k => impl_areUnit.l0 k (pre ++ r) ((pre ++ r).length : Int) (pre.length : Int)) = some (unitB r)
  | [], pre, hl => by
    rw [L_shift]
    simp only [impl_areUnit.l0, not_lt_end, if_false, L_const]
    simp [unitB]
  | y :: r, pre, hl => by
    rw [L_shift]
    have e : rd_T37 (pre ++ y :: r) (pre.length : Int) = y := getD_mid pre y r _
    have hp2 : pre.length < 4611686018427387904 := by simp at hl; omega
    have ih := areUnit_l r (pre ++ [y]) (by simpa using hl)
    rw [← app_cons pre y r] at ih
    simp only [impl_areUnit.l0, lt_mid, le_nat, if_true, e, wrap_mid pre y hp2, L_ite, L_const, ih]
    have eu : unitB (y :: r) = (decide (y.f0 = 1) && unitB r) := rfl
    rw [eu]
    by_cases hx : y.f0 = 1
    · rw [if_pos hx, decide_eq_true hx, Bool.true_and]
    · rw [if_neg hx, decide_eq_false hx, Bool.false_and]
theorem areUnit_L (l : List S37) (h : l.length ≤ 1048576) : L (fun k => impl_areUnit.f k l) = some (goodB l && plainB l && unitB l) := by
  have := areUnit_l l [] (by simpa using h)
  simp only [List.nil_append, List.length_nil, Int.natCast_zero] at this
  simp only [impl_areUnit.f, L_bind, IsPlain_L l (by omega), Option.bind_some, L_ite, L_const, this, ite_and]

instance : ∀ u e, Mono (fun k => impl_UnitSlots.down k u e) := fun u e => ⟨⟨fun k => impl_UnitSlots.down_mono k u e⟩⟩
instance : ∀ l r u F, Mono (fun k => impl_UnitSlots.back k l r u F) := fun l r u F => ⟨⟨fun k => impl_UnitSlots.back_mono k l r u F⟩⟩
theorem us_pos (l : List S37) (x : Int) : ∀ out : List Int, (∀ y ∈ out, y < x) → spec_UnitSlots.posN l x out ≤ out.length ∧ (∀ j, j < spec_UnitSlots.posN l x out → dueQ l (out.getD j 0) x = true) ∧ (spec_UnitSlots.posN l x out < out.length → dueQ l (out.getD (spec_UnitSlots.posN l x out) 0) x = false)
  | [], _ => ⟨Nat.le_refl _, fun j hj => absurd hj (by simp [spec_UnitSlots.posN]), fun h => absurd h (by simp)⟩
  | y :: r, hlt => by
    obtain ⟨h1, h2, h3⟩ := us_pos l x r (fun z hz => hlt z (List.mem_cons_of_mem _ hz))
    have hy := hlt y List.mem_cons_self
    have e : ∀ x, rd_T37 l x = jobAt l x := fun _ => rfl
    simp only [spec_UnitSlots.posN, e]
    by_cases hq : (jobAt l y).f3 ≤ (jobAt l x).f3
    · rw [if_pos hq]
      refine ⟨by simpa using h1, fun j hj => ?_, fun h => by simpa using h3 (by simpa using h)⟩
      cases j with
      | zero =>
        show dueQ l y x = true
        rw [dueQ_iff]
        omega
      | succ j => simpa using h2 j (by omega)
    · rw [if_neg hq]
      refine ⟨Nat.zero_le _, fun j hj => absurd hj (by omega), fun _ => ?_⟩
      show dueQ l y x = false
      rw [dueQ_false]
      omega
theorem us_go (l : List S37) : ∀ (rest out : List Int), rest.Pairwise (· < ·) → (∀ x ∈ rest, ∀ y ∈ out, y < x) → out.Pairwise (fun a b => dueQ l b a = false) → (spec_UnitSlots.go l rest out).Perm (out ++ rest) ∧ (spec_UnitSlots.go l rest out).Pairwise (fun a b => dueQ l b a = false)
  | [], out, _, _, hs => ⟨by rw [List.append_nil]; exact List.Perm.refl _, hs⟩
  | x :: r, out, ha, hlt, hs => by
    have ha' := List.pairwise_cons.1 ha
    obtain ⟨h2, h3, h4⟩ := us_pos l x out (fun y hy => hlt x List.mem_cons_self y hy)
    rw [spec_UnitSlots.go]
    generalize spec_UnitSlots.posN l x out = k at h2 h3 h4 ⊢
    have hp := ins_perm out k x
    obtain ⟨s2, s3⟩ := us_go l r (out.take k ++ x :: out.drop k) ha'.2 (fun z hz y hy => by
      rcases List.mem_cons.1 (hp.subset hy) with rfl | hy
      · exact ha'.1 z hz
      · exact hlt z (List.mem_cons_of_mem _ hz) y hy) (ins_sorted (dueQ l) (dueQ_tr l) (dueQ_asy l) x out k h2 hs h3 h4)
    exact ⟨s2.trans ((hp.append_right r).trans (List.perm_middle (l₁ := out) (a := x) (l₂ := r)).symm), s3⟩
theorem us_order (l : List S37) (s : List Int) (hs : ∀ y ∈ s, 0 ≤ y ∧ y < (l.length : Int)) (ha : s.Pairwise (· < ·)) : impl_sortedBy.sortO (impl_UnitSlots_1.p l) s [] = some (spec_UnitSlots.go l s []) ∧ (spec_UnitSlots.go l s []).Perm s ∧ (spec_UnitSlots.go l s []).Pairwise (fun a b => dueQ l b a = false) := by
  have e : ∀ x, rd_T37 l x = jobAt l x := fun _ => rfl
  obtain ⟨o, o1, o2, o3⟩ := sortO_asc (impl_UnitSlots_1.p l) (dueQ l) (fun x => 0 ≤ x ∧ x < (l.length : Int)) (fun a b ha hb hba => by
    rw [impl_UnitSlots_1.p, if_pos ⟨ha.1, ha.2, hb.1, hb.2⟩, e, e, dueQ, decide_eq_false (show ¬ a < b by omega), Bool.and_false, Bool.or_false]) (dueQ_tr l) (dueQ_asy l) s [] ha (by simp) hs (by simp) List.Pairwise.nil
  obtain ⟨g1, g2⟩ := us_go l s [] ha (by simp) List.Pairwise.nil
  simp only [List.nil_append] at o2 g1
  have := perm_sorted_eq (fun a b => dueQ l b a = false) (fun a b h1 h2 => dueQ_anti l a b h1 h2) o _ (o2.trans g1.symm) o3 g2
  subst this
  exact ⟨o1, g1, g2⟩
/-- Going down from e, the first number that is not among the used ones. -/
theorem us_down (u : List Int) (hu : u.length ≤ 1000) : ∀ (d : Nat) (e t : Int), e = t + (d : Int) → -100000 ≤ t → e ≤ 100000 → t ∉ u → (∀ v, t < v → v ≤ e → v ∈ u) → L (fun k => impl_UnitSlots.down k u e) = some t
  | 0, e, t, he, h0, h1, hn, _ => by
    obtain rfl : e = t := by omega
    rw [L_shift]
    simp only [impl_UnitSlots.down, L_bind, has_L u e (by omega), Option.bind_some, decide_eq_false hn, Bool.false_eq_true, if_false, L_const]
  | d + 1, e, t, he, h0, h1, hn, hm => by
    have hi : e ∈ u := hm e (by omega) (Int.le_refl _)
    rw [L_shift]
    simp only [impl_UnitSlots.down, L_bind, has_L u e (by omega), Option.bind_some, decide_eq_true hi, if_true, wrap_id (show -9223372036854775808 ≤ e - 1 by omega) (by omega)]
    exact us_down u hu d (e - 1) t (by omega) h0 (by omega) hn (fun v h2 h3 => hm v h2 (by omega))
theorem us_back (l : List S37) (hg : Good l) : ∀ (r u F : List Int) (t D : Int), (∀ y ∈ r, 0 ≤ y ∧ y < (l.length : Int)) → (∀ y ∈ r, (jobAt l y).f3 ≤ D) → r.Pairwise (fun a b => (jobAt l b).f3 ≤ (jobAt l a).f3) → u.length + r.length ≤ 1000 → t ≤ 501 → -1000 + (r.length : Int) ≤ t → (∀ v ∈ u, t ≤ v) → (∀ v, t ≤ v → v ≤ D → v ∈ u) →
    ∃ E, spec_UnitSlots.back l r t F = some E ∧ L (fun k => impl_UnitSlots.back k l r u F) = some E
  | [], u, F, t, D, _, _, _, _, _, _, _, _ => ⟨F, rfl, by simp only [impl_UnitSlots.back, L_const]⟩
  | y :: r, u, F, t, D, hr, hD, hp, hl, ht, ht0, h1, h2 => by
    have hy := hr y List.mem_cons_self
    have hyD := hD y List.mem_cons_self
    have hok := hg.2 _ (jobAt_mem hy.1 hy.2)
    have d0 := hok.d0
    have d1 := hok.d1
    have e : ∀ x, rd_T37 l x = jobAt l x := fun _ => rfl
    have hp' := List.pairwise_cons.1 hp
    simp only [List.length_cons] at hl ht0
    have hmn : mn (t - 1) (jobAt l y).f3 = if t ≤ (jobAt l y).f3 then t - 1 else (jobAt l y).f3 := by
      unfold mn
      split <;> split <;> omega
    have hdn : L (fun k => impl_UnitSlots.down k u (jobAt l y).f3) = some (mn (t - 1) (jobAt l y).f3) := by
      rw [hmn]
      by_cases hc : t ≤ (jobAt l y).f3
      · rw [if_pos hc]
        refine us_down u (by omega) ((jobAt l y).f3 - (t - 1)).toNat _ _ (by omega) (by omega) (by omega) (fun hm => ?_) (fun v h3 h4 => h2 v (by omega) (by omega))
        have := h1 _ hm
        omega
      · rw [if_neg hc]
        refine us_down u (by omega) 0 _ _ (by omega) (by omega) (by omega) (fun hm => ?_) (fun v h3 h4 => by omega)
        have := h1 _ hm
        omega
    have hb : mn (t - 1) (jobAt l y).f3 ≤ t - 1 ∧ mn (t - 1) (jobAt l y).f3 ≤ (jobAt l y).f3 ∧ -1000 + (r.length : Int) ≤ mn (t - 1) (jobAt l y).f3 := by
      rw [hmn]
      split <;> omega
    have hcov : ∀ v, mn (t - 1) (jobAt l y).f3 ≤ v → v ≤ (jobAt l y).f3 → v ∈ u ++ [mn (t - 1) (jobAt l y).f3] := fun v h3 h4 => by
      by_cases hv : v = mn (t - 1) (jobAt l y).f3
      · exact List.mem_append_right _ (by simp [hv])
      · refine List.mem_append_left _ (h2 v ?_ (by omega))
        rw [hmn] at h3 hv
        split at h3 <;> split at hv <;> omega
    obtain ⟨n, hmn'⟩ : ∃ n, mn (t - 1) (jobAt l y).f3 = n := ⟨_, rfl⟩
    rw [hmn'] at hdn hb hcov
    obtain ⟨E, e1, e2⟩ := us_back l hg r (u ++ [n]) (F.set y.toNat n) n (jobAt l y).f3 (fun z hz => hr z (List.mem_cons_of_mem _ hz)) (fun z hz => hp'.1 z hz) hp'.2 (by rw [List.length_append, List.length_singleton]; omega) (by omega) hb.2.2 (fun v hv => by
      rcases List.mem_append.1 hv with h | h
      · have := h1 v h
        omega
      · have : v = n := by simpa using h
        omega) hcov
    refine ⟨E, ?_, ?_⟩
    · simp only [spec_UnitSlots.back, e, wrap_id (show -9223372036854775808 ≤ t - 1 by omega) (by omega), l1Least_e, hmn', Option.bind_some]
      exact e1
    · simp only [impl_UnitSlots.back, e, L_bind, hdn, Option.bind_some]
      exact e2
theorem UnitSlots_both (l : List S37) (s : List Int) (h : l.length ≤ 1048576) (hs : s.length ≤ 1048576) :
    ∃ (p : List Int) (ok : Bool), L (fun k => spec_UnitSlots.f k l s) = some (p, ok) ∧ L (fun k => impl_UnitSlots.f k l s) = some (p, ok) ∧ p.length ≤ 1048576 := by
  simp only [spec_UnitSlots.f, spec_l10Free.f, impl_UnitSlots.f, L_bind, L_ite, L_const, l10Unit_L l h, areUnit_L l h, l6Set_L l s h (by omega), isSet_L l.length s h (by omega), Option.bind_some]
  cases hb : (goodB l && plainB l) with
  | false => exact ⟨[], false, by simp, by simp, by simp⟩
  | true =>
    have hb2 := hb
    simp only [Bool.and_eq_true] at hb2
    have hg := goodB_iff.1 hb2.1
    have h8 := hg.1
    cases hu : unitB l with
    | false => exact ⟨[], false, by simp, by simp, by simp⟩
    | true =>
      cases hset : setB l.length s with
      | false => exact ⟨[], false, by simp, by simp, by simp⟩
      | true =>
        have hr := setB_range hset
        have ha := setB_asc hset
        have hl : s.length ≤ l.length := nodup_bd l.length s (ha.imp (fun h => by omega)) hr
        obtain ⟨b, b1, b2⟩ := timely_both l hg s hr ha (by omega)
        simp only [Bool.and_self, if_true, b1, b2, Option.bind_some]
        cases b with
        | false => exact ⟨[], false, by simp, by simp, by simp⟩
        | true =>
          obtain ⟨o1, o2, o3⟩ := us_order l s hr ha
          have lo := o2.length_eq
          obtain ⟨E, e1, e2⟩ := us_back l hg (spec_UnitSlots.go l s []).reverse [] (List.replicate l.length 0) 501 500 (fun y hy => hr y (o2.subset (List.mem_reverse.1 hy))) (fun y hy => (hg.2 _ (jobAt_mem (hr y (o2.subset (List.mem_reverse.1 hy))).1 (hr y (o2.subset (List.mem_reverse.1 hy))).2)).d1) (List.pairwise_reverse.2 (o3.imp (fun h => by rw [dueQ_false] at h; omega))) (by rw [List.length_reverse]; simp; omega) (by omega) (by rw [List.length_reverse]; omega) (by simp) (fun v h1 h2 => by omega)
          have hc : s.length ≤ 1000 ∧ l.length ≤ 1000 ∧ (∀ x ∈ s, 0 ≤ x ∧ x < (l.length : Int)) := ⟨by omega, by omega, hr⟩
          refine ⟨s.map (fun x => rd E x), true, ?_, ?_, by rw [List.length_map]; omega⟩
          · simp only [if_true, if_pos hc, e1, Option.bind_some, L_const]
          · simp only [if_true, impl_UnitSlots.rest, if_pos hc, o1, Option.bind_some, L_bind, e2, L_const]
theorem laws_FnExactUnitSlots_j0f (x0 : List (S40)) (x1 : List Int) (x6 : List Int) (x7 : Bool) (x8 : List (S37)) (x9 : List Int) (x10 : List Int) (x11 : Bool) : L (fun k => laws_FnExactUnitSlots.j0 k x0 x1 x6 x7 x8 x9 x10 x11 false) = L (fun k => (laws_toJobS.f k x0).bind fun t212 => ((laws_eqJobS.f k x8 t212).bind fun t215 => (if t215 = true then ((laws_toIntS.f k x1).bind fun t216 => ((laws_eqIntS.f k x9 t216).bind fun t219 => (if t219 = true then ((laws_markJobS.f k x8 1).bind fun bt220 => ((laws_markIntS.f k x9 bt220.1).bind fun bt222 => (if bt222.1 < 0 then (laws_FnExactUnitSlots.j1 k x0 x1 x6 x7 x10 true) else ((laws_eqIntS.f k x10 x6).bind fun t224 => (if t224 = true then (laws_FnExactUnitSlots.j1 k x0 x1 x6 x7 x10 (x11 != x7)) else (laws_FnExactUnitSlots.j1 k x0 x1 x6 x7 x10 true)))))) else (some false)))) else (some false)))) := by
  rw [L_shift]
  simp only [laws_FnExactUnitSlots.j0, Bool.false_eq_true, if_false]
theorem laws_FnExactUnitSlots_j1f (x0 : List (S40)) (x1 : List Int) (x6 : List Int) (x7 : Bool) (x10 : List Int) : L (fun k => laws_FnExactUnitSlots.j1 k x0 x1 x6 x7 x10 false) = L (fun k => (laws_markIntS.f k x10 1).bind fun bt225 => ((laws_heldIntS.f k bt225.2 1).bind fun t227 => (if t227 < 0 then (some false) else (if t227 = bt225.1 then ((laws_toJobS.f k x0).bind fun t228 => ((laws_toIntS.f k x1).bind fun t231 => ((impl_UnitSlots.f k t228 t231).bind fun bt234 => ((laws_eqIntS.f k bt234.1 x6).bind fun t238 => (if t238 = true then (laws_FnExactUnitSlots.j2 k bt225.2 bt225.1 (bt234.2 != x7)) else (laws_FnExactUnitSlots.j2 k bt225.2 bt225.1 true)))))) else (some false))))) := by
  rw [L_shift]
  simp only [laws_FnExactUnitSlots.j1, Bool.false_eq_true, if_false]
theorem laws_FnExactUnitSlots_j2f (x10 : List Int) (x13 : Int) : L (fun k => laws_FnExactUnitSlots.j2 k x10 x13 false) = L (fun k => (laws_heldIntS.f k x10 1).bind fun t239 => (if t239 < 0 then (some false) else (if t239 = x13 then (some true) else (some false)))) := by
  rw [L_shift]
  simp only [laws_FnExactUnitSlots.j2, Bool.false_eq_true, if_false]
theorem FnExactUnitSlots : laws_FnExactUnitSlots.Pure := by
  intro l s h1 _ h2 _
  have e1 : maxLen = 9223372036854775807 := rfl
  refine rounds_of_L ?_
  simp only [laws_FnExactUnitSlots.f, L_ite, L_const, szJobS_e l (by omega)]
  by_cases hs : (s.length : Int) > 1048576
  · rw [if_pos hs]
  · rw [if_neg hs]
    have hs2 : s.length ≤ 1048576 := by omega
    by_cases hl : l.length ≤ 1048576
    · have hl2 : (l.map toJobP).length ≤ 1048576 := by simpa using hl
      obtain ⟨R, ok, e1, e2, hR⟩ := UnitSlots_both (l.map toJobP) s hl2 hs2
      rw [if_pos hl]
      simp (disch := omega) only [lt0, Option.bind_some, L_bind, L_ite, L_const, toJobS_L l hl, toIntS_L s hs2, e1, e2, eqJobS_L _ hl2, markJobS_L, markIntS_L s, markIntS_L R, heldIntS_L R, eqIntS_L R hR, eqIntS_L s hs2, laws_FnExactUnitSlots_j0f, laws_FnExactUnitSlots_j1f, laws_FnExactUnitSlots_j2f, if_true, Bool.false_eq_true, if_false, bne_self_eq_false]
    · rw [if_neg hl]
      simp only [Option.bind_some, if_pos (show (-1 : Int) < 0 by decide), L_const]

end Go.Proofs.Ytolkiagalchcmaa.Pure
