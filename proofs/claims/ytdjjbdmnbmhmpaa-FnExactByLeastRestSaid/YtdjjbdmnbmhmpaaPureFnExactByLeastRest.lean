/- The program's ByLeastRest answers what the reference's answers, for all lists of jobs. -/
import Derived.Test.YtdjjbdmnbmhmpaaXSFnExactByLeastRest
import Derived.Test.YtdjjbdmnbmhmpaaXLim
namespace Go.Proofs.Ytdjjbdmnbmhmpaa.Pure
open Go.RowKit Go.Proofs.YtdjjbdmnbmhmpaaW.PrintWords Go.Proofs.YtdjjbdmnbmhmpaaW.PrintLast Go.Proofs.YtdjjbdmnbmhmpaaW.PrintMore Go.Proofs.Ytdjjbdmnbmhmpaa.X Go.Proofs.Ytdjjbdmnbmhmpaa.XRow Go.Proofs.Ytdjjbdmnbmhmpaa.XLim
set_option linter.unusedVariables false
set_option linter.unusedSimpArgs false
instance : ∀ a0, Mono (fun k => impl_ByLeastRest.f k a0) := fun a0 => ⟨⟨impl_ByLeastRest.mono a0⟩⟩
instance : ∀ a0, Mono (fun k => impl_IsJobs.f k a0) := fun a0 => ⟨⟨impl_IsJobs.mono a0⟩⟩
instance : ∀ a0 a1 a2, Mono (fun k => impl_choose.f k a0 a1 a2) := fun a0 a1 a2 => ⟨⟨impl_choose.mono a0 a1 a2⟩⟩
instance : ∀ a0 a1, Mono (fun k => impl_has.f k a0 a1) := fun a0 a1 => ⟨⟨impl_has.mono a0 a1⟩⟩
instance : ∀ a0, Mono (fun k => laws_FnExactByLeastRest.f k a0) := fun a0 => ⟨⟨laws_FnExactByLeastRest.mono a0⟩⟩
instance : ∀ a0 a1, Mono (fun k => laws_eqJobS.f k a0 a1) := fun a0 a1 => ⟨⟨laws_eqJobS.mono a0 a1⟩⟩
instance : ∀ a0 a1, Mono (fun k => laws_eqSpanS.f k a0 a1) := fun a0 a1 => ⟨⟨laws_eqSpanS.mono a0 a1⟩⟩
instance : ∀ a0 a1, Mono (fun k => laws_heldSpanS.f k a0 a1) := fun a0 a1 => ⟨⟨laws_heldSpanS.mono a0 a1⟩⟩
instance : ∀ a0 a1, Mono (fun k => laws_markJobS.f k a0 a1) := fun a0 a1 => ⟨⟨laws_markJobS.mono a0 a1⟩⟩
instance : ∀ a0 a1, Mono (fun k => laws_markSpanS.f k a0 a1) := fun a0 a1 => ⟨⟨laws_markSpanS.mono a0 a1⟩⟩
instance : ∀ a0, Mono (fun k => laws_toJobS.f k a0) := fun a0 => ⟨⟨laws_toJobS.mono a0⟩⟩
instance : ∀ a0, Mono (fun k => spec_ByLeastRest.f k a0) := fun a0 => ⟨⟨spec_ByLeastRest.mono a0⟩⟩
instance : ∀ a0, Mono (fun k => spec_l2Good.f k a0) := fun a0 => ⟨⟨spec_l2Good.mono a0⟩⟩
instance : ∀ a0 a1 a2 a3, Mono (fun k => spec_l5Choose.f k a0 a1 a2 a3) := fun a0 a1 a2 a3 => ⟨⟨spec_l5Choose.mono a0 a1 a2 a3⟩⟩
instance : ∀ a0 a1 a2 a3, Mono (fun k => spec_l5Pick.f k a0 a1 a2 a3) := fun a0 a1 a2 a3 => ⟨⟨spec_l5Pick.mono a0 a1 a2 a3⟩⟩
instance : ∀ a0, Mono (fun k => spec_l5Rests.f k a0) := fun a0 => ⟨⟨spec_l5Rests.mono a0⟩⟩
-- base
theorem lt_mid {α : Type} (pre : List α) (x : α) (r : List α) : ((pre.length : Int) < ((pre ++ x :: r).length : Int)) = True := by
  simp only [List.length_append, List.length_cons]
  exact eq_true (by omega)
theorem not_lt_end {α : Type} (pre : List α) : ((pre.length : Int) < ((pre ++ []).length : Int)) = False := by
  simp
theorem le_nat (n : Nat) : (0 ≤ (n : Int)) = True := eq_true (by omega)
theorem getD_mid {α : Type} (pre : List α) (x : α) (r : List α) (d : α) : (pre ++ x :: r).getD (pre.length : Int).toNat d = x := by
  simp [List.getD_eq_getElem?_getD]
theorem rd_mid (pre : List Int) (x : Int) (r : List Int) : rd (pre ++ x :: r) (pre.length : Int) = x := getD_mid pre x r 0
theorem wrap_mid {α : Type} (pre : List α) (x : α) (h : pre.length < 4611686018427387904) : wrap64 ((pre.length : Int) + 1) = ((pre ++ [x]).length : Int) := by
  rw [wrap_id (by omega) (by omega)]
  simp
theorem set_mid {α β : Type} (a : List α) (y v : α) (b : List α) (pre : List β) (h : pre.length = a.length) : (a ++ y :: b).set (pre.length : Int).toNat v = a ++ v :: b := by
  rw [Int.toNat_natCast, h, List.set_append_right _ _ (Nat.le_refl _)]
  simp
theorem rep_succ {α : Type} (x : α) (r : List α) {β : Type} (z : β) : List.replicate (x :: r).length z = z :: List.replicate r.length z := rfl
theorem app_cons {α : Type} (pre : List α) (x : α) (r : List α) : pre ++ x :: r = (pre ++ [x]) ++ r := by simp
-- lt0
theorem lt0 {a : Int} (h : 0 ≤ a) : (a < 0) = False := eq_false (by omega)
-- getD
theorem getD_set (out : List Int) (i j : Nat) (v : Int) : (out.set i v).getD j 0 = if i = j ∧ j < out.length then v else out.getD j 0 := by
  simp only [List.getD_eq_getElem?_getD, List.getElem?_set]
  by_cases h : i = j
  · subst h
    by_cases h2 : i < out.length
    · simp [h2]
    · simp [h2]
  · simp [h]
theorem ext_getD {a b : List Int} (hl : a.length = b.length) (h : ∀ j : Nat, j < a.length → a.getD j 0 = b.getD j 0) : a = b := by
  apply List.ext_getElem hl
  intro j h1 h2
  have := h j h1
  rwa [List.getD_eq_getElem?_getD, List.getD_eq_getElem?_getD, List.getElem?_eq_getElem h1, List.getElem?_eq_getElem h2] at this
theorem getD_mem {l : List Int} {j : Nat} (hj : j < l.length) : l.getD j 0 ∈ l := by
  rw [List.getD_eq_getElem?_getD, List.getElem?_eq_getElem hj]
  exact List.getElem_mem _
-- toJob
def toJobP (x : S103) : S101 := ⟨x.f0, x.f1, x.f2, x.f3⟩
theorem toJobS_l (r : List S103) : ∀ pre : List S103, (pre ++ r).length < 4611686018427387904 → L (fun k => laws_toJobS.l0 k (pre ++ r) (pre.map toJobP ++ List.replicate r.length z101) (pre.length : Int)) = some ((pre ++ r).map toJobP) := by
  induction r with
  | nil =>
    intro pre hb
    rw [L_shift]
    simp only [laws_toJobS.l0, not_lt_end, if_false, L_const, List.length_nil, List.replicate_zero]
    simp
  | cons x r ih =>
    intro pre hb
    rw [L_shift]
    have hl : pre.length < 4611686018427387904 := by simp at hb; omega
    have e : rd_T103 (pre ++ x :: r) (pre.length : Int) = x := getD_mid pre x r _
    have e2 : ((pre.length : Int) < ((pre.map toJobP ++ z101 :: List.replicate r.length z101).length : Int)) = True := by
      simp only [List.length_append, List.length_cons, List.length_map]
      exact eq_true (by omega)
    simp only [laws_toJobS.l0, laws_toJob.f, lt_mid, le_nat, if_true, rep_succ, e, e2, wrap_mid pre x hl, Option.bind_some, set_mid (pre.map toJobP) _ _ _ pre (by simp)]
    have := ih (pre ++ [x]) (by simpa using hb)
    simpa [toJobP] using this
theorem toJobS_L (l : List S103) (h : l.length ≤ 1048576) : L (fun k => laws_toJobS.f k l) = some (l.map toJobP) := by
  simp only [laws_toJobS.f, le_nat, if_true, Int.toNat_natCast, if_pos (show l.length ≤ 8796093022208 by omega)]
  exact toJobS_l l [] (by simp; omega)
-- eqJob
theorem eqJobS_l (r : List S101) : ∀ pre : List S101, (pre ++ r).length < 4611686018427387904 → L (fun k => laws_eqJobS.l0 k (pre ++ r) (pre ++ r) (pre.length : Int)) = some true := by
  induction r with
  | nil =>
    intro pre hb
    rw [L_shift]
    simp only [laws_eqJobS.l0, not_lt_end, if_false, L_const]
  | cons x r ih =>
    intro pre hb
    rw [L_shift]
    have hl : pre.length < 4611686018427387904 := by simp at hb; omega
    simp only [laws_eqJobS.l0, laws_eqJob.f, lt_mid, le_nat, if_true, wrap_mid pre x hl, Option.bind_some]
    rw [app_cons pre x r]
    exact ih (pre ++ [x]) (by simpa using hb)
theorem eqJobS_L (l : List S101) (h : l.length ≤ 1048576) : L (fun k => laws_eqJobS.f k l l) = some true := by
  simp only [laws_eqJobS.f, if_true]
  exact eqJobS_l l [] (by simp; omega)
-- szJob
theorem szJobS_e (l : List S103) (h : l.length ≤ 9223372036854775807) : laws_szJobS.f l 1048576 = if l.length ≤ 1048576 then some (1048576 - (l.length : Int)) else some (-1) := by
  unfold laws_szJobS.f
  have e : wrap64 (1048576 - (l.length : Int)) = 1048576 - (l.length : Int) := wrap_id (by omega) (by omega)
  rw [e]
  by_cases h2 : l.length ≤ 1048576
  · rw [if_neg (by omega), if_pos h2]
  · rw [if_pos (by omega), if_neg h2]
-- markJob
def countJ : Int → List S101 → List S101
  | _, [] => []
  | v, _ :: r => ⟨v, v + 1, v + 1 + 1, v + 1 + 1 + 1⟩ :: countJ (v + 1 + 1 + 1 + 1) r
theorem markJobS_l (r : List S101) : ∀ (pre : List S101) (v : Int), (pre ++ r).length < 4611686018427387904 → 0 ≤ v → v + 4 * r.length < 9223372036854775807 → L (fun k => laws_markJobS.l0 k (pre ++ r) v (pre.length : Int)) = some (v + 4 * r.length, pre ++ countJ v r) := by
  induction r with
  | nil =>
    intro pre v hb h0 h1
    rw [L_shift]
    simp only [laws_markJobS.l0, not_lt_end, if_false, L_const]
    simp [countJ]
  | cons x r ih =>
    intro pre v hb h0 h1
    rw [L_shift]
    have hl : pre.length < 4611686018427387904 := by simp at hb; omega
    simp only [List.length_cons] at h1
    have e : ∀ y, rd_T101 (pre ++ y :: r) (pre.length : Int) = y := fun y => getD_mid pre y r _
    have es : ∀ y z, (pre ++ y :: r).set (pre.length : Int).toNat z = pre ++ z :: r := fun y z => set_mid pre y z r pre rfl
    simp only [laws_markJobS.l0, lt_mid, le_nat, if_true, Option.bind_some, e, es, wrap_mid pre x hl, wrap_id (show -9223372036854775808 ≤ v + 1 by omega) (show v + 1 ≤ 9223372036854775807 by omega), wrap_id (show -9223372036854775808 ≤ v + 1 + 1 by omega) (show v + 1 + 1 ≤ 9223372036854775807 by omega), wrap_id (show -9223372036854775808 ≤ v + 1 + 1 + 1 by omega) (show v + 1 + 1 + 1 ≤ 9223372036854775807 by omega), wrap_id (show -9223372036854775808 ≤ v + 1 + 1 + 1 + 1 by omega) (show v + 1 + 1 + 1 + 1 ≤ 9223372036854775807 by omega)]
    have := ih (pre ++ [⟨v, v + 1, v + 1 + 1, v + 1 + 1 + 1⟩]) (v + 1 + 1 + 1 + 1) (by simpa using hb) (by omega) (by omega)
    simp only [List.append_assoc, List.cons_append, List.nil_append, List.length_append, List.length_cons, List.length_nil] at this ⊢
    rw [this]
    simp only [countJ, Option.some.injEq, Prod.mk.injEq]
    exact ⟨by omega, by first | rfl | trivial⟩
theorem markJobS_L (l : List S101) (v : Int) (h : l.length ≤ 1048576) (h0 : 0 ≤ v) (h1 : v ≤ 1000000000) : L (fun k => laws_markJobS.f k l v) = some (v + 4 * l.length, countJ v l) := by
  have := markJobS_l l [] v (by simp; omega) h0 (by omega)
  simpa [laws_markJobS.f] using this
-- eqSpan
theorem eqSpanS_l (r : List S130) : ∀ pre : List S130, (pre ++ r).length < 4611686018427387904 → L (fun k => laws_eqSpanS.l0 k (pre ++ r) (pre ++ r) (pre.length : Int)) = some true := by
  induction r with
  | nil =>
    intro pre hb
    rw [L_shift]
    simp only [laws_eqSpanS.l0, not_lt_end, if_false, L_const]
  | cons x r ih =>
    intro pre hb
    rw [L_shift]
    have hl : pre.length < 4611686018427387904 := by simp at hb; omega
    simp only [laws_eqSpanS.l0, laws_eqSpan.f, lt_mid, le_nat, if_true, wrap_mid pre x hl, Option.bind_some]
    rw [app_cons pre x r]
    exact ih (pre ++ [x]) (by simpa using hb)
theorem eqSpanS_L (l : List S130) (h : l.length ≤ 1048576) : L (fun k => laws_eqSpanS.f k l l) = some true := by
  simp only [laws_eqSpanS.f, if_true]
  exact eqSpanS_l l [] (by simp; omega)
-- countS
def countS : Int → List S130 → List S130
  | _, [] => []
  | v, _ :: r => ⟨v, v + 1, v + 1 + 1⟩ :: countS (v + 1 + 1 + 1) r
-- markSpan
theorem markSpanS_l (r : List S130) : ∀ (pre : List S130) (v : Int), (pre ++ r).length < 4611686018427387904 → 0 ≤ v → v + 3 * r.length < 9223372036854775807 → L (fun k => laws_markSpanS.l0 k (pre ++ r) v (pre.length : Int)) = some (v + 3 * r.length, pre ++ countS v r) := by
  induction r with
  | nil =>
    intro pre v hb h0 h1
    rw [L_shift]
    simp only [laws_markSpanS.l0, not_lt_end, if_false, L_const]
    simp [countS]
  | cons x r ih =>
    intro pre v hb h0 h1
    rw [L_shift]
    have hl : pre.length < 4611686018427387904 := by simp at hb; omega
    simp only [List.length_cons] at h1
    have e : ∀ y, rd_T130 (pre ++ y :: r) (pre.length : Int) = y := fun y => getD_mid pre y r _
    have es : ∀ y z, (pre ++ y :: r).set (pre.length : Int).toNat z = pre ++ z :: r := fun y z => set_mid pre y z r pre rfl
    simp only [laws_markSpanS.l0, lt_mid, le_nat, if_true, Option.bind_some, e, es, wrap_mid pre x hl, wrap_id (show -9223372036854775808 ≤ v + 1 by omega) (show v + 1 ≤ 9223372036854775807 by omega), wrap_id (show -9223372036854775808 ≤ v + 1 + 1 by omega) (show v + 1 + 1 ≤ 9223372036854775807 by omega), wrap_id (show -9223372036854775808 ≤ v + 1 + 1 + 1 by omega) (show v + 1 + 1 + 1 ≤ 9223372036854775807 by omega)]
    have := ih (pre ++ [⟨v, v + 1, v + 1 + 1⟩]) (v + 1 + 1 + 1) (by simpa using hb) (by omega) (by omega)
    simp only [List.append_assoc, List.cons_append, List.nil_append, List.length_append, List.length_cons, List.length_nil] at this ⊢
    rw [this]
    simp only [countS, Option.some.injEq, Prod.mk.injEq]
    exact ⟨by omega, by first | rfl | trivial⟩
theorem markSpanS_L (l : List S130) (v : Int) (h : l.length ≤ 1048576) (h0 : 0 ≤ v) (h1 : v ≤ 1000000000) : L (fun k => laws_markSpanS.f k l v) = some (v + 3 * l.length, countS v l) := by
  have := markSpanS_l l [] v (by simp; omega) h0 (by omega)
  simpa [laws_markSpanS.f] using this
-- heldSpan
theorem heldSpanS_l (r : List S130) : ∀ (pre : List S130) (v : Int), (pre.length + r.length) < 4611686018427387904 → 0 ≤ v → v + 3 * r.length < 9223372036854775807 → L (fun k => laws_heldSpanS.l0 k (pre ++ countS v r) v (pre.length : Int)) = some (v + 3 * r.length) := by
  induction r with
  | nil =>
    intro pre v hb h0 h1
    rw [L_shift]
    simp only [laws_heldSpanS.l0, countS, not_lt_end, if_false, L_const]
    simp
  | cons x r ih =>
    intro pre v hb h0 h1
    rw [L_shift]
    simp only [List.length_cons] at h1 hb
    have hl : pre.length < 4611686018427387904 := by omega
    have e : rd_T130 (pre ++ countS v (x :: r)) (pre.length : Int) = ⟨v, v + 1, v + 1 + 1⟩ := getD_mid pre _ _ _
    simp only [laws_heldSpanS.l0, e]
    simp only [countS, lt_mid, le_nat, if_true, wrap_mid pre x hl, wrap_id (show -9223372036854775808 ≤ v + 1 by omega) (show v + 1 ≤ 9223372036854775807 by omega), wrap_id (show -9223372036854775808 ≤ v + 1 + 1 by omega) (show v + 1 + 1 ≤ 9223372036854775807 by omega), wrap_id (show -9223372036854775808 ≤ v + 1 + 1 + 1 by omega) (show v + 1 + 1 + 1 ≤ 9223372036854775807 by omega)]
    have := ih (pre ++ [⟨v, v + 1, v + 1 + 1⟩]) (v + 1 + 1 + 1) (by simp; omega) (by omega) (by omega)
    simp only [List.append_assoc, List.cons_append, List.nil_append, List.length_append, List.length_cons, List.length_nil] at this ⊢
    rw [this]
    simp only [Option.some.injEq]
    omega
theorem heldSpanS_L (l : List S130) (v : Int) (h : l.length ≤ 1048576) (h0 : 0 ≤ v) (h1 : v ≤ 1000000000) : L (fun k => laws_heldSpanS.f k (countS v l) v) = some (v + 3 * l.length) := by
  have := heldSpanS_l l [] v (by simp; omega) h0 (by omega)
  simpa [laws_heldSpanS.f] using this
-- bools
theorem ite_and (b c : Bool) : (if b = true then some c else some false) = some (b && c) := by cases b <;> rfl
theorem ite_not_and (b c : Bool) : (if b = true then some false else some c) = some (!b && c) := by cases b <;> rfl
theorem bind_self {α : Type} (o : Option α) : (o.bind fun t => some t) = o := by cases o <;> rfl
def inB (a lo hi : Int) : Bool := decide (lo ≤ a) && decide (a ≤ hi)
theorem inB_iff {a lo hi : Int} : inB a lo hi = true ↔ lo ≤ a ∧ a ≤ hi := by simp [inB]
-- within
theorem within_e (a lo hi : Int) : impl_within.f a lo hi = some (inB a lo hi) := by
  unfold impl_within.f inB
  by_cases h : lo ≤ a <;> simp [h]
-- l1In
theorem l1In_e (a lo hi : Int) : spec_l1In.f a lo hi = some (inB a lo hi) := by
  unfold spec_l1In.f inB
  by_cases h : lo ≤ a <;> simp [h]
-- has
theorem has_l (x : Int) (r : List Int) : ∀ pre : List Int, (pre ++ r).length < 4611686018427387904 → L (fun k => impl_has.l0 k x (pre ++ r) ((pre ++ r).length : Int) (pre.length : Int)) = some (decide (x ∈ r)) := by
  induction r with
  | nil =>
    intro pre hb
    rw [L_shift]
    simp only [impl_has.l0, not_lt_end, if_false, L_const]
    simp
  | cons y r ih =>
    intro pre hb
    rw [L_shift]
    have hl : pre.length < 4611686018427387904 := by simp at hb; omega
    simp only [impl_has.l0, lt_mid, le_nat, if_true, rd_mid, wrap_mid pre y hl, L_ite, L_const]
    rw [app_cons pre y r, ih (pre ++ [y]) (by simpa using hb)]
    by_cases h : y = x
    · subst h
      simp
    · rw [if_neg h]
      have : ¬ x = y := fun e => h e.symm
      simp [this]
theorem has_L (l : List Int) (x : Int) (h : l.length < 4611686018427387904) : L (fun k => impl_has.f k l x) = some (decide (x ∈ l)) := has_l x l [] (by simpa using h)
-- perm
theorem perm_of : ∀ (a b : List Int), a.Nodup → (∀ x ∈ a, x ∈ b) → b.length ≤ a.length → a.Perm b
  | [], b, _, _, hl => by
    have : b = [] := List.length_eq_zero_iff.1 (by simpa using hl)
    rw [this]
  | x :: a, b, hn, hs, hl => by
    have hx : x ∈ b := hs x List.mem_cons_self
    have hn' := List.nodup_cons.1 hn
    have hp := List.perm_cons_erase hx
    have h1 : (b.erase x).length ≤ a.length := by
      have := List.length_erase_of_mem hx
      simp at hl
      omega
    have h2 : ∀ y ∈ a, y ∈ b.erase x := fun y hy => (List.mem_erase_of_ne (by rintro rfl; exact hn'.1 hy)).2 (hs y (List.mem_cons_of_mem _ hy))
    exact ((perm_of a (b.erase x) hn'.2 h2 h1).cons x).trans hp.symm
def numsTo (n : Nat) : List Int := (List.range n).map (fun i : Nat => (i : Int))
theorem numsTo_length (n : Nat) : (numsTo n).length = n := by simp [numsTo]
theorem mem_numsTo {n : Nat} {x : Int} : x ∈ numsTo n ↔ 0 ≤ x ∧ x < n := by
  simp only [numsTo, List.mem_map, List.mem_range]
  constructor
  · rintro ⟨i, hi, rfl⟩
    omega
  · intro h
    exact ⟨x.toNat, by omega, by omega⟩
theorem numsTo_nodup (n : Nat) : (numsTo n).Nodup := by
  unfold numsTo
  exact List.Pairwise.map _ (fun a b h => by omega) List.nodup_range
theorem numsTo_succ (n : Nat) : numsTo (n + 1) = numsTo n ++ [(n : Int)] := by
  unfold numsTo
  rw [List.range_succ, List.map_append]
  rfl
-- orders
/-- Different numbers of n things, none of them in pre. -/
def diffB (n : Int) : List Int → List Int → Bool
  | _, [] => true
  | pre, x :: r => inB x 0 (n - 1) && (!decide (x ∈ pre) && diffB n (pre ++ [x]) r)
theorem diffB_iff (n : Int) : ∀ (r pre : List Int), diffB n pre r = true ↔ (∀ x ∈ r, 0 ≤ x ∧ x < n) ∧ r.Nodup ∧ ∀ x ∈ r, x ∉ pre
  | [], pre => by simp [diffB]
  | x :: r, pre => by
    rw [diffB, Bool.and_eq_true, Bool.and_eq_true, inB_iff, diffB_iff n r (pre ++ [x])]
    simp only [Bool.not_eq_true', decide_eq_false_iff_not, List.mem_cons, List.nodup_cons, List.mem_append, List.not_mem_nil, or_false, not_or]
    constructor
    · rintro ⟨h1, h2, h3, h4, h5⟩
      refine ⟨?_, ⟨fun hx => (h5 x hx).2 rfl, h4⟩, ?_⟩
      · rintro y (rfl | hy)
        · omega
        · exact h3 y hy
      · rintro y (rfl | hy)
        · exact h2
        · exact (h5 y hy).1
    · rintro ⟨h1, ⟨h2, h3⟩, h4⟩
      exact ⟨⟨(h1 x (.inl rfl)).1, by have := (h1 x (.inl rfl)).2; omega⟩, h4 x (.inl rfl), fun y hy => h1 y (.inr hy), h3, fun y hy => ⟨h4 y (.inr hy), fun e => h2 (e ▸ hy)⟩⟩
/-- An order of n jobs. -/
def orderB (n : Nat) (l : List Int) : Bool := decide ((l.length : Int) = n) && diffB n [] l
def IsOrd (n : Nat) (l : List Int) : Prop := l.length = n ∧ (∀ x ∈ l, 0 ≤ x ∧ x < n) ∧ l.Nodup
theorem orderB_iff {n : Nat} {l : List Int} : orderB n l = true ↔ IsOrd n l := by
  simp only [orderB, Bool.and_eq_true, decide_eq_true_eq, diffB_iff, IsOrd]
  constructor
  · rintro ⟨h, h1, h2, _⟩
    exact ⟨by omega, h1, h2⟩
  · rintro ⟨h, h1, h2⟩
    exact ⟨by omega, h1, h2, by simp⟩
theorem IsOrd.perm {n : Nat} {l : List Int} (h : IsOrd n l) : l.Perm (numsTo n) := perm_of l _ h.2.2 (fun x hx => mem_numsTo.2 (h.2.1 x hx)) (by rw [numsTo_length, h.1]; exact Nat.le_refl _)
theorem IsOrd.of_perm {n : Nat} {l : List Int} (h : l.Perm (numsTo n)) : IsOrd n l := ⟨by rw [h.length_eq, numsTo_length], fun x hx => mem_numsTo.1 (h.mem_iff.1 hx), h.nodup_iff.2 (numsTo_nodup n)⟩
theorem IsOrd.mem {n : Nat} {l : List Int} (h : IsOrd n l) {x : Int} : x ∈ l ↔ 0 ≤ x ∧ x < n := by rw [h.perm.mem_iff, mem_numsTo]
theorem isOrd_all {n : Nat} {l : List Int} (hl : l.length = n) (h : ∀ j : Nat, j < n → (j : Int) ∈ l) : IsOrd n l :=
  IsOrd.of_perm (perm_of _ l (numsTo_nodup n) (fun x hx => by
    obtain ⟨h0, h1⟩ := mem_numsTo.1 hx
    have := h x.toNat (by omega)
    rwa [Int.toNat_of_nonneg h0] at this) (by rw [numsTo_length, hl]; exact Nat.le_refl _)).symm
-- good
def jobB (j : S101) : Bool := inB j.f0 1 50 && (inB j.f1 0 50 && (inB j.f2 0 500 && inB j.f3 0 500))
def goodB (l : List S101) : Bool := l.all jobB && decide ((l.length : Int) ≤ 8)
structure JobOk (j : S101) : Prop where
  t0 : 1 ≤ j.f0
  t1 : j.f0 ≤ 50
  w0 : 0 ≤ j.f1
  w1 : j.f1 ≤ 50
  r0 : 0 ≤ j.f2
  r1 : j.f2 ≤ 500
  d0 : 0 ≤ j.f3
  d1 : j.f3 ≤ 500
def Good (l : List S101) : Prop := l.length ≤ 8 ∧ ∀ j ∈ l, JobOk j
theorem goodB_iff {l : List S101} : goodB l = true ↔ Good l := by
  simp only [goodB, Good, Bool.and_eq_true, List.all_eq_true, decide_eq_true_eq, jobB, inB_iff]
  constructor
  · rintro ⟨h, hl⟩
    exact ⟨by omega, fun j hj => by
      obtain ⟨⟨a, b⟩, ⟨c, d⟩, ⟨e, f⟩, g, i⟩ := h j hj
      exact ⟨a, b, c, d, e, f, g, i⟩⟩
  · rintro ⟨hl, h⟩
    exact ⟨fun j hj => ⟨⟨(h j hj).t0, (h j hj).t1⟩, ⟨(h j hj).w0, (h j hj).w1⟩, ⟨(h j hj).r0, (h j hj).r1⟩, (h j hj).d0, (h j hj).d1⟩, by omega⟩
-- l2Good
theorem l2Job_e (j : S101) : spec_l2Job.f j.f0 j.f1 j.f2 j.f3 = some (jobB j) := by
  simp only [spec_l2Job.f, l1In_e, Option.bind_some, ite_and, jobB]
theorem l2Good_l (r : List S101) : ∀ pre : List S101, (pre ++ r).length < 4611686018427387904 → L (fun k => spec_l2Good.l0 k (pre ++ r) (pre.length : Int)) = some (r.all jobB && decide (((pre ++ r).length : Int) ≤ 8)) := by
  induction r with
  | nil =>
    intro pre hb
    rw [L_shift]
    simp only [spec_l2Good.l0, not_lt_end, if_false, L_const]
    simp
  | cons x r ih =>
    intro pre hb
    rw [L_shift]
    have hl : pre.length < 4611686018427387904 := by simp at hb; omega
    have e : rd_T101 (pre ++ x :: r) (pre.length : Int) = x := getD_mid pre x r _
    simp only [spec_l2Good.l0, lt_mid, le_nat, if_true, e, wrap_mid pre x hl, l2Job_e, Option.bind_some, L_ite, L_const]
    rw [app_cons pre x r, ih (pre ++ [x]) (by simpa using hb), ite_and]
    rw [List.all_cons, Bool.and_assoc]
theorem l2Good_L (l : List S101) (h : l.length < 4611686018427387904) : L (fun k => spec_l2Good.f k l) = some (goodB l) := by
  have := l2Good_l l [] (by simpa using h)
  simpa [goodB, spec_l2Good.f] using this
-- IsJobs
theorem isDate_e (n : Int) : impl_isDate.f n = some (inB n 0 500) := by
  simp only [impl_isDate.f, within_e, Option.bind_some]
theorem IsJobs_l (r : List S101) : ∀ pre : List S101, (pre ++ r).length < 4611686018427387904 → L (fun k => impl_IsJobs.l0 k (pre ++ r) ((pre ++ r).length : Int) (pre.length : Int)) = some (r.all jobB) := by
  induction r with
  | nil =>
    intro pre hb
    rw [L_shift]
    simp only [impl_IsJobs.l0, not_lt_end, if_false, L_const]
    simp
  | cons x r ih =>
    intro pre hb
    rw [L_shift]
    have hl : pre.length < 4611686018427387904 := by simp at hb; omega
    have e : rd_T101 (pre ++ x :: r) (pre.length : Int) = x := getD_mid pre x r _
    simp only [impl_IsJobs.l0, lt_mid, le_nat, if_true, e, wrap_mid pre x hl, within_e, isDate_e, Option.bind_some, L_ite, L_const]
    rw [app_cons pre x r, ih (pre ++ [x]) (by simpa using hb)]
    simp only [ite_and, List.all_cons, jobB, Bool.and_assoc]
theorem IsJobs_L (l : List S101) (h : l.length < 4611686018427387904) : L (fun k => impl_IsJobs.f k l) = some (goodB l) := by
  have := IsJobs_l l [] (by simpa using h)
  simp only [List.nil_append, List.length_nil, Int.natCast_zero] at this
  simp only [impl_IsJobs.f, L_ite, L_const, this, goodB]
  by_cases h8 : (l.length : Int) ≤ 8
  · rw [if_neg (by omega)]
    simp [h8]
  · rw [if_pos (by omega)]
    simp [h8]
-- times
def timeSum (l : List S101) : Int := (l.map (·.f0)).sum
theorem timeSum_cons (x : S101) (l : List S101) : timeSum (x :: l) = x.f0 + timeSum l := by simp [timeSum]
theorem timeSum_bounds (l : List S101) (h : ∀ j ∈ l, JobOk j) : 0 ≤ timeSum l ∧ timeSum l ≤ 50 * l.length := by
  induction l with
  | nil => simp [timeSum]
  | cons x l ih =>
    rw [timeSum_cons]
    have := ih (fun j hj => h j (List.mem_cons_of_mem _ hj))
    have hx := h x List.mem_cons_self
    have := hx.t0
    have := hx.t1
    simp only [List.length_cons]
    omega
-- schedule
def jobAt (l : List S101) (x : Int) : S101 := l.getD x.toNat z101
theorem jobAt_mem {l : List S101} {x : Int} (h0 : 0 ≤ x) (h1 : x < l.length) : jobAt l x ∈ l := by
  unfold jobAt
  rw [List.getD_eq_getElem?_getD, List.getElem?_eq_getElem (by omega)]
  exact List.getElem_mem _
/-- The ends, put into out by the jobs' numbers. -/
def endsF (l : List S101) : List Int → List Int → Int → List Int
  | [], out, _ => out
  | x :: r, out, now => endsF l r (out.set x.toNat (max now (jobAt l x).f2 + (jobAt l x).f0)) (max now (jobAt l x).f2 + (jobAt l x).f0)
def startsF (l : List S101) : List Int → List Int → Int → List Int
  | [], out, _ => out
  | x :: r, out, now => startsF l r (out.set x.toNat (max now (jobAt l x).f2)) (max now (jobAt l x).f2 + (jobAt l x).f0)
def endsP (l : List S101) (o : List Int) : List Int := endsF l o (List.replicate l.length 0) 0
def startsP (l : List S101) (o : List Int) : List Int := startsF l o (List.replicate l.length 0) 0
theorem endsF_length (l : List S101) : ∀ (o out : List Int) (now : Int), (endsF l o out now).length = out.length
  | [], out, now => rfl
  | x :: r, out, now => by rw [endsF, endsF_length l r, List.length_set]
theorem startsF_length (l : List S101) : ∀ (o out : List Int) (now : Int), (startsF l o out now).length = out.length
  | [], out, now => rfl
  | x :: r, out, now => by rw [startsF, startsF_length l r, List.length_set]
theorem endsP_length (l : List S101) (o : List Int) : (endsP l o).length = l.length := by rw [endsP, endsF_length, List.length_replicate]
theorem startsP_length (l : List S101) (o : List Int) : (startsP l o).length = l.length := by rw [startsP, startsF_length, List.length_replicate]
theorem ends_starts (l : List S101) : ∀ (o E S : List Int) (now : Int), E.length = l.length → S.length = l.length → (∀ x ∈ o, 0 ≤ x ∧ x < (l.length : Int)) →
    ∀ j : Nat, j < l.length → ((j : Int) ∈ o ∨ E.getD j 0 = S.getD j 0 + (l.getD j z101).f0) → (endsF l o E now).getD j 0 = (startsF l o S now).getD j 0 + (l.getD j z101).f0
  | [], E, S, now, _, _, _, j, _, h => by
    rcases h with h | h
    · cases h
    · exact h
  | x :: r, E, S, now, hE, hS, hx, j, hj, h => by
    rw [endsF, startsF]
    refine ends_starts l r _ _ _ (by rw [List.length_set, hE]) (by rw [List.length_set, hS]) (fun y hy => hx y (List.mem_cons_of_mem _ hy)) j hj ?_
    have hx0 := hx x List.mem_cons_self
    by_cases hr : (j : Int) ∈ r
    · exact .inl hr
    · right
      rw [getD_set, getD_set, hE, hS]
      by_cases e : x.toNat = j
      · rw [if_pos ⟨e, hj⟩, if_pos ⟨e, hj⟩]
        unfold jobAt
        rw [e]
      · rw [if_neg (fun h => e h.1), if_neg (fun h => e h.1)]
        rcases h with h | h
        · rcases List.mem_cons.1 h with h | h
          · exact absurd (by omega) e
          · exact absurd h hr
        · exact h
theorem ends_bounds (l : List S101) (hg : Good l) : ∀ (o E : List Int) (now : Int), 0 ≤ now → now ≤ 500 + 50 * (8 - o.length : Int) → o.length ≤ 8 → (∀ x ∈ o, 0 ≤ x ∧ x < (l.length : Int)) → (∀ v ∈ E, 0 ≤ v ∧ v ≤ 900) → ∀ v ∈ endsF l o E now, 0 ≤ v ∧ v ≤ 900
  | [], E, now, _, _, _, _, hE => hE
  | x :: r, E, now, h0, h1, hl, hx, hE => by
    rw [endsF]
    have hx0 := hx x List.mem_cons_self
    have hj := hg.2 _ (jobAt_mem hx0.1 hx0.2)
    have a0 := hj.t0
    have a1 := hj.t1
    have a2 := hj.r0
    have a3 := hj.r1
    simp only [List.length_cons] at h1 hl
    refine ends_bounds l hg r _ _ (by omega) (by omega) (by omega) (fun y hy => hx y (List.mem_cons_of_mem _ hy)) (fun v hv => ?_)
    rcases List.mem_or_eq_of_mem_set hv with h | h
    · exact hE v h
    · rw [h]
      omega
theorem endsP_bounds {l : List S101} {o : List Int} (hg : Good l) (ho : IsOrd l.length o) : ∀ v ∈ endsP l o, 0 ≤ v ∧ v ≤ 900 :=
  ends_bounds l hg o _ 0 (by omega) (by have := ho.1; have := hg.1; omega) (by have := ho.1; have := hg.1; omega) ho.2.1 (fun v hv => by rw [(List.mem_replicate.1 hv).2]; omega)
theorem endsP_starts {l : List S101} {o : List Int} (ho : IsOrd l.length o) (j : Nat) (hj : j < l.length) : (endsP l o).getD j 0 = (startsP l o).getD j 0 + (l.getD j z101).f0 :=
  ends_starts l o _ _ 0 (by simp) (by simp) ho.2.1 j hj (.inl (ho.mem.2 ⟨by omega, by omega⟩))
-- l1Own
theorem l1Own_e (l : List Int) (h : l.length ≤ 1048576) : spec_l1Own.f l = some l := by
  simp only [spec_l1Own.f, Option.bind_some, List.length_nil, List.nil_append]
  rw [if_pos (by omega)]
-- pick
/-- Nothing is to be done of a job now. -/
def skipJ (rest : List Int) (now : Int) (i : Int) (j : S101) : Prop := rd rest i = 0 ∨ j.f2 > now
instance (rest : List Int) (now i : Int) (j : S101) : Decidable (skipJ rest now i j) := by unfold skipJ; infer_instance
def pickStep (l : List S101) (rest : List Int) (now obj b i : Int) (j : S101) : Int :=
  if skipJ rest now i j then b else if b < 0 then i else if obj = 2 then (if rd rest i < rd rest b then i else b) else (if j.f3 < (jobAt l b).f3 then i else b)
/-- The job that is picked: from place i on, b so far. -/
def pickL (l : List S101) (rest : List Int) (now obj : Int) : Int → Nat → List S101 → Int
  | b, _, [] => b
  | b, i, j :: r => pickL l rest now obj (pickStep l rest now obj b (i : Int) j) (i + 1) r
theorem pickStep_or (l : List S101) (rest : List Int) (now obj b i : Int) (j : S101) : pickStep l rest now obj b i j = b ∨ (pickStep l rest now obj b i j = i ∧ ¬ skipJ rest now i j) := by
  unfold pickStep
  by_cases h : skipJ rest now i j
  · exact .inl (if_pos h)
  · rw [if_neg h]
    repeat' split
    all_goals first | exact .inl rfl | exact .inr ⟨rfl, h⟩
theorem pickStep_neg {l : List S101} {rest : List Int} {now obj b i : Int} {j : S101} (hi : 0 ≤ i) (h : pickStep l rest now obj b i j < 0) : b < 0 ∧ skipJ rest now i j := by
  unfold pickStep at h
  by_cases hs : skipJ rest now i j
  · rw [if_pos hs] at h
    exact ⟨h, hs⟩
  · rw [if_neg hs] at h
    exfalso
    split at h
    · omega
    · split at h
      · split at h <;> omega
      · split at h <;> omega
theorem pickL_neg (l : List S101) (rest : List Int) (now obj : Int) : ∀ (r pre : List S101) (b : Int), pickL l rest now obj b pre.length r < 0 → b < 0 ∧ ∀ (i : Nat) (j : S101), r[i]? = some j → skipJ rest now ((pre.length + i : Nat) : Int) j
  | [], pre, b, h => ⟨h, fun i j hj => by simp at hj⟩
  | x :: r, pre, b, h => by
    rw [pickL] at h
    have e : pre.length + 1 = (pre ++ [x]).length := by simp
    rw [e] at h
    obtain ⟨h1, h2⟩ := pickL_neg l rest now obj r (pre ++ [x]) _ h
    obtain ⟨h3, h4⟩ := pickStep_neg (by omega) h1
    refine ⟨h3, fun i j hj => ?_⟩
    cases i with
    | zero =>
      simp only [List.getElem?_cons_zero, Option.some.injEq] at hj
      subst hj
      exact h4
    | succ i =>
      have := h2 i j (by simpa using hj)
      have e2 : (pre ++ [x]).length + i = pre.length + (i + 1) := by simp; omega
      rwa [e2] at this
theorem pickL_pos (l : List S101) (rest : List Int) (now obj : Int) : ∀ (r pre : List S101) (b : Int), pickL l rest now obj b pre.length r = b ∨ ∃ (i : Nat) (j : S101), r[i]? = some j ∧ pickL l rest now obj b pre.length r = ((pre.length + i : Nat) : Int) ∧ ¬ skipJ rest now ((pre.length + i : Nat) : Int) j
  | [], pre, b => .inl rfl
  | x :: r, pre, b => by
    rw [pickL]
    have e : pre.length + 1 = (pre ++ [x]).length := by simp
    rw [e]
    rcases pickL_pos l rest now obj r (pre ++ [x]) (pickStep l rest now obj b pre.length x) with h | ⟨i, j, h1, h2, h3⟩
    · rw [h]
      rcases pickStep_or l rest now obj b pre.length x with h | ⟨h1, h2⟩
      · exact .inl h
      · exact .inr ⟨0, x, rfl, h1, h2⟩
    · have e2 : (pre ++ [x]).length + i = pre.length + (i + 1) := by simp; omega
      rw [e2] at h2 h3
      exact .inr ⟨i + 1, j, by simpa using h1, h2, h3⟩
def pickP (l : List S101) (rest : List Int) (now obj : Int) : Int := pickL l rest now obj (-1) 0 l
theorem pickP_neg {l : List S101} {rest : List Int} {now obj : Int} (h : pickP l rest now obj < 0) : ∀ i : Nat, i < l.length → rest.getD i 0 = 0 ∨ (l.getD i z101).f2 > now := fun i hi => by
  have := (pickL_neg l rest now obj l [] (-1) h).2 i (l.getD i z101) (by rw [List.getD_eq_getElem?_getD, List.getElem?_eq_getElem hi]; rfl)
  simpa [skipJ, rd] using this
theorem pickP_pos {l : List S101} {rest : List Int} {now obj : Int} (h : 0 ≤ pickP l rest now obj) : pickP l rest now obj < (l.length : Int) ∧ rd rest (pickP l rest now obj) ≠ 0 := by
  rcases pickL_pos l rest now obj l [] (-1) with h1 | ⟨i, j, h1, h2, h3⟩
  · unfold pickP at h
    simp only [List.length_nil] at h1
    omega
  · simp only [List.length_nil, Nat.zero_add] at h2 h3
    have hi : i < l.length := (List.getElem?_eq_some_iff.1 h1).1
    unfold pickP
    rw [h2]
    exact ⟨by omega, fun e => h3 (.inl e)⟩
theorem pickL_range (l : List S101) (rest : List Int) (now obj : Int) (r pre : List S101) (b : Int) (hb : b < 0 ∨ (0 ≤ b ∧ b < ((pre ++ r).length : Int))) : pickL l rest now obj b pre.length r < 0 ∨ (0 ≤ pickL l rest now obj b pre.length r ∧ pickL l rest now obj b pre.length r < ((pre ++ r).length : Int)) := by
  rcases pickL_pos l rest now obj r pre b with h | ⟨i, j, h1, h2, _⟩
  · rw [h]
    exact hb
  · have hi : i < r.length := (List.getElem?_eq_some_iff.1 h1).1
    right
    rw [h2]
    simp
    omega
-- l5Pick
theorem spec_l5Pick_j1 (x0 : List (S101)) (x1 : List Int) (x2 : Int) (x3 : Int) (x9 : Int) (x10 : Int) (x30 : Bool) : L (fun k => spec_l5Pick.j1 k x0 x1 x2 x3 x9 x10 x30) = L (fun k => if x30 = true then (spec_l5Pick.l0 k x0 x1 x2 x3 x9 (wrap64 (x10 + 1))) else (if x9 < 0 then (spec_l5Pick.l0 k x0 x1 x2 x3 x10 (wrap64 (x10 + 1))) else (if x3 = 2 then (if 0 ≤ x10 then (if x10 < (x1.length : Int) then (if 0 ≤ x9 then (if x9 < (x1.length : Int) then (if (rd x1 x10) < (rd x1 x9) then (spec_l5Pick.l0 k x0 x1 x2 x3 x10 (wrap64 (x10 + 1))) else (if x3 = 4 then (if x10 < (x0.length : Int) then (if x9 < (x0.length : Int) then (if ((rd_T101 x0 x10).f3) < ((rd_T101 x0 x9).f3) then (spec_l5Pick.l0 k x0 x1 x2 x3 x10 (wrap64 (x10 + 1))) else (spec_l5Pick.l0 k x0 x1 x2 x3 x9 (wrap64 (x10 + 1)))) else (none)) else (none)) else (spec_l5Pick.l0 k x0 x1 x2 x3 x9 (wrap64 (x10 + 1))))) else (none)) else (none)) else (none)) else (none)) else (if x3 = 4 then (if 0 ≤ x10 then (if x10 < (x0.length : Int) then (if 0 ≤ x9 then (if x9 < (x0.length : Int) then (if ((rd_T101 x0 x10).f3) < ((rd_T101 x0 x9).f3) then (spec_l5Pick.l0 k x0 x1 x2 x3 x10 (wrap64 (x10 + 1))) else (spec_l5Pick.l0 k x0 x1 x2 x3 x9 (wrap64 (x10 + 1)))) else (none)) else (none)) else (none)) else (none)) else (spec_l5Pick.l0 k x0 x1 x2 x3 x9 (wrap64 (x10 + 1))))))) := by
  rw [L_shift]
  simp only [spec_l5Pick.j1]
theorem spec_l5Pick_j1f (x0 : List (S101)) (x1 : List Int) (x2 : Int) (x3 : Int) (x9 : Int) (x10 : Int) : L (fun k => spec_l5Pick.j1 k x0 x1 x2 x3 x9 x10 false) = L (fun k => if x9 < 0 then (spec_l5Pick.l0 k x0 x1 x2 x3 x10 (wrap64 (x10 + 1))) else (if x3 = 2 then (if 0 ≤ x10 then (if x10 < (x1.length : Int) then (if 0 ≤ x9 then (if x9 < (x1.length : Int) then (if (rd x1 x10) < (rd x1 x9) then (spec_l5Pick.l0 k x0 x1 x2 x3 x10 (wrap64 (x10 + 1))) else (if x3 = 4 then (if x10 < (x0.length : Int) then (if x9 < (x0.length : Int) then (if ((rd_T101 x0 x10).f3) < ((rd_T101 x0 x9).f3) then (spec_l5Pick.l0 k x0 x1 x2 x3 x10 (wrap64 (x10 + 1))) else (spec_l5Pick.l0 k x0 x1 x2 x3 x9 (wrap64 (x10 + 1)))) else (none)) else (none)) else (spec_l5Pick.l0 k x0 x1 x2 x3 x9 (wrap64 (x10 + 1))))) else (none)) else (none)) else (none)) else (none)) else (if x3 = 4 then (if 0 ≤ x10 then (if x10 < (x0.length : Int) then (if 0 ≤ x9 then (if x9 < (x0.length : Int) then (if ((rd_T101 x0 x10).f3) < ((rd_T101 x0 x9).f3) then (spec_l5Pick.l0 k x0 x1 x2 x3 x10 (wrap64 (x10 + 1))) else (spec_l5Pick.l0 k x0 x1 x2 x3 x9 (wrap64 (x10 + 1)))) else (none)) else (none)) else (none)) else (none)) else (spec_l5Pick.l0 k x0 x1 x2 x3 x9 (wrap64 (x10 + 1)))))) := by
  rw [L_shift]
  simp only [spec_l5Pick.j1, Bool.false_eq_true, if_false]
theorem l5Pick_l (l : List S101) (rest : List Int) (now obj : Int) (hobj : obj = 2 ∨ obj = 4) (hrest : rest.length = l.length) (h8 : l.length ≤ 1000) (r : List S101) : ∀ (pre : List S101) (b : Int), l = pre ++ r → (b < 0 ∨ (0 ≤ b ∧ b < (l.length : Int))) →
    L (fun k => spec_l5Pick.l0 k l rest now obj b (pre.length : Int)) = some (pickL l rest now obj b pre.length r) := by
  induction r with
  | nil =>
    intro pre b hl hb
    rw [L_shift]
    subst hl
    simp only [spec_l5Pick.l0, not_lt_end, if_false, L_const, pickL]
  | cons x r ih =>
    intro pre b hl hb
    have hlen : l.length = pre.length + (r.length + 1) := by rw [hl]; simp
    have e : rd_T101 l (pre.length : Int) = x := by rw [hl]; exact getD_mid pre x r _
    have ew : wrap64 ((pre.length : Int) + 1) = ((pre ++ [x]).length : Int) := wrap_mid pre x (by omega)
    have ihs := ih (pre ++ [x]) (pickStep l rest now obj b pre.length x) (by rw [hl]; simp) (by
      rcases pickStep_or l rest now obj b pre.length x with h | ⟨h, _⟩
      · rw [h]; exact hb
      · rw [h]; right; omega)
    have el : (pre ++ [x]).length = pre.length + 1 := by simp
    have key : L (fun k => spec_l5Pick.l0 k l rest now obj b (pre.length : Int)) = L (fun k => spec_l5Pick.l0 k l rest now obj (pickStep l rest now obj b pre.length x) ((pre ++ [x]).length : Int)) := by
      rw [L_shift]
      simp only [spec_l5Pick.l0, if_pos (show (pre.length : Int) < (l.length : Int) by omega), le_nat, if_true, if_pos (show (pre.length : Int) < (rest.length : Int) by omega), e, L_ite, spec_l5Pick_j1, ew]
      by_cases hr0 : rd rest (pre.length : Int) = 0
      · have hp : pickStep l rest now obj b pre.length x = b := if_pos (.inl hr0)
        simp only [if_pos hr0, hp, if_true]
      · rw [if_neg hr0]
        by_cases hrel : x.f2 > now
        · have hp : pickStep l rest now obj b pre.length x = b := if_pos (.inr hrel)
          rw [hp, decide_eq_true hrel]
          simp
        · have hsk : ¬ skipJ rest now pre.length x := fun h => h.elim hr0 hrel
          rw [decide_eq_false hrel]
          simp only [Bool.false_eq_true, if_false]
          unfold pickStep
          rw [if_neg hsk]
          by_cases hb0 : b < 0
          · rw [if_pos hb0, if_pos hb0]
          · rw [if_neg hb0, if_neg hb0]
            have hb1 : 0 ≤ b ∧ b < (l.length : Int) := by omega
            have e3 : rd_T101 l b = jobAt l b := rfl
            rcases hobj with rfl | rfl
            · simp only [if_pos (show (pre.length : Int) < (rest.length : Int) by omega), if_pos hb1.1, if_pos (show b < (rest.length : Int) by omega), if_true]
              by_cases hc : rd rest (pre.length : Int) < rd rest b
              · simp only [if_pos hc]
              · simp only [if_neg hc, if_neg (show ¬ ((2 : Int) = 4) by decide)]
            · simp only [if_neg (show ¬ ((4 : Int) = 2) by decide), if_true, if_pos (show (pre.length : Int) < (l.length : Int) by omega), if_pos hb1.1, if_pos hb1.2, e3]
              by_cases hc : x.f3 < (jobAt l b).f3
              · simp only [if_pos hc]
              · simp only [if_neg hc]
    rw [key, ihs, pickL, el]
theorem l5Pick_L (l : List S101) (rest : List Int) (now obj : Int) (hobj : obj = 2 ∨ obj = 4) (hrest : rest.length = l.length) (h8 : l.length ≤ 1000) : L (fun k => spec_l5Pick.f k l rest now obj) = some (pickP l rest now obj) := by
  have := l5Pick_l l rest now obj hobj hrest h8 l [] (-1) rfl (by omega)
  simpa [spec_l5Pick.f, pickP] using this
-- choosePick
theorem impl_choose_j4 (x0 : List (S101)) (x2 : Int) (x8 : List Int) (x9 : List Int) (x10 : Int) (x11 : Int) (x16 : List (S130)) (x17 : Int) (x18 : Int) (x76 : List (S101)) (x77 : Int) (x78 : Int) (x93 : Bool) (x1220000 : Int) (x1220001 : Int) (x1220002 : Int) (x1220003 : Int) : L (fun k => impl_choose.j4 k x0 x2 x8 x9 x10 x11 x16 x17 x18 x76 x77 x78 x93 x1220000 x1220001 x1220002 x1220003) = L (fun k => if x93 = true then (impl_choose.l3 k x0 x2 x8 x9 x10 x11 x16 x17 x76 x77 (wrap64 (x78 + 1))) else (if x17 < 0 then (impl_choose.l3 k x0 x2 x8 x9 x10 x11 x16 x18 x76 x77 (wrap64 (x78 + 1))) else (if x2 = 2 then (if 0 ≤ x18 then (if x18 < (x8.length : Int) then (if 0 ≤ x17 then (if x17 < (x8.length : Int) then (if (rd x8 x18) < (rd x8 x17) then (impl_choose.l3 k x0 x2 x8 x9 x10 x11 x16 x18 x76 x77 (wrap64 (x78 + 1))) else (impl_choose.l3 k x0 x2 x8 x9 x10 x11 x16 x17 x76 x77 (wrap64 (x78 + 1)))) else (none)) else (none)) else (none)) else (none)) else (if 0 ≤ x17 then (if x17 < (x0.length : Int) then (if x1220003 < ((rd_T101 x0 x17).f3) then (impl_choose.l3 k x0 x2 x8 x9 x10 x11 x16 x18 x76 x77 (wrap64 (x78 + 1))) else (impl_choose.l3 k x0 x2 x8 x9 x10 x11 x16 x17 x76 x77 (wrap64 (x78 + 1)))) else (none)) else (none))))) := by
  rw [L_shift]
  simp only [impl_choose.j4]
theorem impl_choose_j4f (x0 : List (S101)) (x2 : Int) (x8 : List Int) (x9 : List Int) (x10 : Int) (x11 : Int) (x16 : List (S130)) (x17 : Int) (x18 : Int) (x76 : List (S101)) (x77 : Int) (x78 : Int) (x1220000 : Int) (x1220001 : Int) (x1220002 : Int) (x1220003 : Int) : L (fun k => impl_choose.j4 k x0 x2 x8 x9 x10 x11 x16 x17 x18 x76 x77 x78 false x1220000 x1220001 x1220002 x1220003) = L (fun k => if x17 < 0 then (impl_choose.l3 k x0 x2 x8 x9 x10 x11 x16 x18 x76 x77 (wrap64 (x78 + 1))) else (if x2 = 2 then (if 0 ≤ x18 then (if x18 < (x8.length : Int) then (if 0 ≤ x17 then (if x17 < (x8.length : Int) then (if (rd x8 x18) < (rd x8 x17) then (impl_choose.l3 k x0 x2 x8 x9 x10 x11 x16 x18 x76 x77 (wrap64 (x78 + 1))) else (impl_choose.l3 k x0 x2 x8 x9 x10 x11 x16 x17 x76 x77 (wrap64 (x78 + 1)))) else (none)) else (none)) else (none)) else (none)) else (if 0 ≤ x17 then (if x17 < (x0.length : Int) then (if x1220003 < ((rd_T101 x0 x17).f3) then (impl_choose.l3 k x0 x2 x8 x9 x10 x11 x16 x18 x76 x77 (wrap64 (x78 + 1))) else (impl_choose.l3 k x0 x2 x8 x9 x10 x11 x16 x17 x76 x77 (wrap64 (x78 + 1)))) else (none)) else (none)))) := by
  rw [L_shift]
  simp only [impl_choose.j4, Bool.false_eq_true, if_false]
theorem choose_scan (l : List S101) (rest ends : List Int) (left now obj : Int) (spans : List S130) (hobj : obj = 2 ∨ obj = 4) (hrest : rest.length = l.length) (h8 : l.length ≤ 1000) (r : List S101) : ∀ (pre : List S101) (b : Int), l = pre ++ r → (b < 0 ∨ (0 ≤ b ∧ b < (l.length : Int))) →
    L (fun k => impl_choose.l3 k l obj rest ends left now spans b l (l.length : Int) (pre.length : Int)) = L (fun k => impl_choose.l3 k l obj rest ends left now spans (pickL l rest now obj b pre.length r) l (l.length : Int) (l.length : Int)) := by
  induction r with
  | nil =>
    intro pre b hl hb
    subst hl
    simp only [List.append_nil, pickL]
  | cons x r ih =>
    intro pre b hl hb
    have hlen : l.length = pre.length + (r.length + 1) := by rw [hl]; simp
    have e : rd_T101 l (pre.length : Int) = x := by rw [hl]; exact getD_mid pre x r _
    have ew : wrap64 ((pre.length : Int) + 1) = ((pre ++ [x]).length : Int) := wrap_mid pre x (by omega)
    have ihs := ih (pre ++ [x]) (pickStep l rest now obj b pre.length x) (by rw [hl]; simp) (by
      rcases pickStep_or l rest now obj b pre.length x with h | ⟨h, _⟩
      · rw [h]; exact hb
      · rw [h]; right; omega)
    have el : (pre ++ [x]).length = pre.length + 1 := by simp
    have key : L (fun k => impl_choose.l3 k l obj rest ends left now spans b l (l.length : Int) (pre.length : Int)) = L (fun k => impl_choose.l3 k l obj rest ends left now spans (pickStep l rest now obj b pre.length x) l (l.length : Int) ((pre ++ [x]).length : Int)) := by
      rw [L_shift]
      simp only [impl_choose.l3, if_pos (show (pre.length : Int) < (l.length : Int) by omega), le_nat, if_true, if_pos (show (pre.length : Int) < (rest.length : Int) by omega), e, L_ite, impl_choose_j4, ew]
      by_cases hr0 : rd rest (pre.length : Int) = 0
      · have hp : pickStep l rest now obj b pre.length x = b := if_pos (.inl hr0)
        simp only [if_pos hr0, hp, if_true]
      · rw [if_neg hr0]
        by_cases hrel : x.f2 > now
        · have hp : pickStep l rest now obj b pre.length x = b := if_pos (.inr hrel)
          rw [hp, decide_eq_true hrel]
          simp
        · have hsk : ¬ skipJ rest now pre.length x := fun h => h.elim hr0 hrel
          rw [decide_eq_false hrel]
          simp only [Bool.false_eq_true, if_false]
          unfold pickStep
          rw [if_neg hsk]
          by_cases hb0 : b < 0
          · rw [if_pos hb0, if_pos hb0]
          · rw [if_neg hb0, if_neg hb0]
            have hb1 : 0 ≤ b ∧ b < (l.length : Int) := by omega
            have e3 : rd_T101 l b = jobAt l b := rfl
            rcases hobj with rfl | rfl
            · simp only [if_pos (show (pre.length : Int) < (rest.length : Int) by omega), if_pos hb1.1, if_pos (show b < (rest.length : Int) by omega), if_true]
              by_cases hc : rd rest (pre.length : Int) < rd rest b
              · simp only [if_pos hc]
              · simp only [if_neg hc]
            · simp only [if_neg (show ¬ ((4 : Int) = 2) by decide), if_pos hb1.1, if_pos hb1.2, e3]
              by_cases hc : x.f3 < (jobAt l b).f3
              · simp only [if_pos hc]
              · simp only [if_neg hc]
    rw [key, ihs, pickL, el]
-- sumset
theorem sum_nonneg : ∀ l : List Int, (∀ v ∈ l, 0 ≤ v) → 0 ≤ l.sum
  | [], _ => by simp
  | x :: l, h => by
    have h1 := h x List.mem_cons_self
    have h2 := sum_nonneg l (fun v hv => h v (List.mem_cons_of_mem _ hv))
    rw [List.sum_cons]
    omega
theorem sum_set : ∀ (l : List Int) (i : Nat) (v : Int), i < l.length → (l.set i v).sum = l.sum - l.getD i 0 + v
  | [], i, v, h => by simp at h
  | x :: l, 0, v, h => by
    simp only [List.set_cons_zero, List.sum_cons, List.getD_cons_zero]
    omega
  | x :: l, i + 1, v, h => by
    have := sum_set l i v (by simpa using h)
    simp only [List.set_cons_succ, List.sum_cons, List.getD_cons_succ, this]
    omega
theorem sum_zero : ∀ l : List Int, (∀ i : Nat, i < l.length → l.getD i 0 = 0) → l.sum = 0
  | [], _ => rfl
  | x :: l, h => by
    have h1 := h 0 (by simp)
    have h2 := sum_zero l (fun i hi => by
      have := h (i + 1) (by simpa using hi)
      rwa [List.getD_cons_succ] at this)
    rw [List.getD_cons_zero] at h1
    rw [List.sum_cons, h1, h2]
    rfl
-- spansUp
/-- One more step of a job at a time. -/
def spansUp (spans : List S130) (p now : Int) : List S130 :=
  if 0 < spans.length ∧ (spans.getD (spans.length - 1) z130).f0 = p ∧ (spans.getD (spans.length - 1) z130).f2 = now then spans.set (spans.length - 1) ⟨(spans.getD (spans.length - 1) z130).f0, (spans.getD (spans.length - 1) z130).f1, now + 1⟩ else spans ++ [⟨p, now, now + 1⟩]
theorem spansUp_length (spans : List S130) (p now : Int) : (spansUp spans p now).length ≤ spans.length + 1 := by
  unfold spansUp
  split <;> simp
-- chooseMain
/-- The state of a choice: what is left, and when. -/
structure ChSt (l : List S101) (rest : List Int) (left now : Int) : Prop where
  len : rest.length = l.length
  nn : ∀ v ∈ rest, 0 ≤ v
  sum : left = rest.sum
  now0 : 0 ≤ now
theorem ChSt.pick_neg {l : List S101} {rest : List Int} {left now obj : Int} (hg : Good l) (h : ChSt l rest left now) (hl : 0 < left) (hp : pickP l rest now obj < 0) : now ≤ 499 := by
  refine Classical.byContradiction fun hc => ?_
  have hz : rest.sum = 0 := sum_zero rest (fun i hi => by
    rw [h.len] at hi
    rcases pickP_neg hp i hi with h0 | h0
    · exact h0
    · have hm : l.getD i z101 ∈ l := by
        rw [List.getD_eq_getElem?_getD, List.getElem?_eq_getElem hi]
        exact List.getElem_mem _
      have := (hg.2 _ hm).r1
      omega)
  have := h.sum
  omega
theorem ChSt.step {l : List S101} {rest : List Int} {left now : Int} {p : Int} (h : ChSt l rest left now) (hp0 : 0 ≤ p) (hp1 : p < (l.length : Int)) (hr : rd rest p ≠ 0) : ChSt l (rest.set p.toNat (rd rest p - 1)) (left - 1) (now + 1) ∧ 1 ≤ rd rest p := by
  have hlen := h.len
  have hm : rd rest p ∈ rest := getD_mem (l := rest) (j := p.toNat) (by omega)
  have hn := h.nn _ hm
  have hr1 : 1 ≤ rd rest p := by omega
  refine ⟨⟨by rw [List.length_set, h.len], fun v hv => ?_, ?_, by have := h.now0; omega⟩, hr1⟩
  · rcases List.mem_or_eq_of_mem_set hv with h1 | h1
    · exact h.nn v h1
    · omega
  · rw [sum_set rest p.toNat _ (by omega), h.sum]
    show rest.sum - 1 = rest.sum - rd rest p + (rd rest p - 1)
    omega
theorem choose_spec_step (l : List S101) (rest : List Int) (left now obj : Int) (spans : List S130) (hobj : obj = 2 ∨ obj = 4) (h : ChSt l rest left now) (h8 : l.length ≤ 1000) (hl : 0 < left) (hl2 : left ≤ 100000) (hn : now ≤ 100000) (hs : spans.length ≤ 100000) :
    L (fun k => spec_l5Choose.l1 k l obj spans rest left now) = if pickP l rest now obj < 0 then L (fun k => spec_l5Choose.l1 k l obj spans rest left (now + 1)) else L (fun k => spec_l5Choose.l1 k l obj (spansUp spans (pickP l rest now obj) now) (rest.set (pickP l rest now obj).toNat (rd rest (pickP l rest now obj) - 1)) (left - 1) (now + 1)) := by
  have hlen := h.len
  have hnow := h.now0
  rw [L_shift]
  have ew : wrap64 ((spans.length : Int) - 1) = (spans.length : Int) - 1 := wrap_id (by omega) (by omega)
  have en : wrap64 (now + 1) = now + 1 := wrap_id (by omega) (by omega)
  have elf : wrap64 (left - 1) = left - 1 := wrap_id (by omega) (by omega)
  simp only [spec_l5Choose.l1, if_pos (show left > 0 by omega), L_bind, l5Pick_L l rest now obj hobj h.len h8, Option.bind_some, L_ite, L_const, ew, en, elf]
  by_cases hp : pickP l rest now obj < 0
  · rw [if_pos hp, if_pos hp]
  · rw [if_neg hp, if_neg hp]
    have hp0 : 0 ≤ pickP l rest now obj := by omega
    obtain ⟨hp1, hr⟩ := pickP_pos hp0
    obtain ⟨_, hr1⟩ := h.step hp0 hp1 hr
    have er : wrap64 (rd rest (pickP l rest now obj) - 1) = rd rest (pickP l rest now obj) - 1 := by
      have hle : rd rest (pickP l rest now obj) ≤ rest.sum := by
        have hm := (sum_set rest (pickP l rest now obj).toNat 0 (by omega))
        have h2 := sum_nonneg (rest.set (pickP l rest now obj).toNat 0) (fun v hv => by
          rcases List.mem_or_eq_of_mem_set hv with h1 | h1
          · exact h.nn v h1
          · omega)
        show rest.getD (pickP l rest now obj).toNat 0 ≤ _
        omega
      have := h.sum
      exact wrap_id (by omega) (by omega)
    have e0 : ∀ i : Int, rd_T130 spans i = spans.getD i.toNat z130 := fun _ => rfl
    have e1 : ((spans.length : Int) - 1).toNat = spans.length - 1 := by omega
    simp only [er, e0, e1, if_pos hp0, if_pos (show pickP l rest now obj < (rest.length : Int) by omega), if_pos (show spans.length < 5864062014805 by omega)]
    unfold spansUp
    by_cases hz : 0 < spans.length
    · rw [if_pos (show (spans.length : Int) - 1 ≥ 0 by omega), if_pos (show (0 : Int) ≤ (spans.length : Int) - 1 by omega), if_pos (show (spans.length : Int) - 1 < (spans.length : Int) by omega)]
      by_cases h0 : (spans.getD (spans.length - 1) z130).f0 = pickP l rest now obj
      · rw [if_pos h0]
        by_cases h2 : (spans.getD (spans.length - 1) z130).f2 = now
        · rw [if_pos h2, if_pos (show 0 < spans.length ∧ _ ∧ _ from ⟨hz, h0, h2⟩)]
        · rw [if_neg h2, if_neg (fun hh => h2 hh.2.2)]
      · rw [if_neg h0, if_neg (fun hh => h0 hh.2.1)]
    · rw [if_neg (show ¬ ((spans.length : Int) - 1 ≥ 0) by omega), if_neg (fun hh => hz hh.1)]
theorem choose_impl_step (l : List S101) (rest ends : List Int) (left now obj : Int) (spans : List S130) (hobj : obj = 2 ∨ obj = 4) (h : ChSt l rest left now) (he : ends.length = l.length) (h8 : l.length ≤ 1000) (hl : 0 < left) (hl2 : left ≤ 100000) (hn : now ≤ 100000) (hs : spans.length ≤ 100000) :
    L (fun k => impl_choose.l2 k l obj rest ends left now spans) = if pickP l rest now obj < 0 then L (fun k => impl_choose.l2 k l obj rest ends left (now + 1) spans) else L (fun k => impl_choose.l2 k l obj (rest.set (pickP l rest now obj).toNat (rd rest (pickP l rest now obj) - 1)) (ends.set (pickP l rest now obj).toNat (now + 1)) (left - 1) (now + 1) (spansUp spans (pickP l rest now obj) now)) := by
  have hlen := h.len
  have hnow := h.now0
  have hsc := choose_scan l rest ends left now obj spans hobj h.len h8 l [] (-1) rfl (by omega)
  simp only [List.length_nil, Int.natCast_zero] at hsc
  rw [L_shift]
  simp only [impl_choose.l2, if_pos (show left > 0 by omega), hsc]
  rw [L_shift]
  have ew : wrap64 ((spans.length : Int) - 1) = (spans.length : Int) - 1 := wrap_id (by omega) (by omega)
  have en : wrap64 (now + 1) = now + 1 := wrap_id (by omega) (by omega)
  have elf : wrap64 (left - 1) = left - 1 := wrap_id (by omega) (by omega)
  have epp : pickL l rest now obj (-1) 0 l = pickP l rest now obj := rfl
  simp only [impl_choose.l3, if_neg (show ¬ ((l.length : Int) < (l.length : Int)) by omega), epp, L_ite, L_const, ew, en, elf]
  by_cases hp : pickP l rest now obj < 0
  · rw [if_pos hp, if_pos hp]
  · rw [if_neg hp, if_neg hp]
    have hp0 : 0 ≤ pickP l rest now obj := by omega
    obtain ⟨hp1, hr⟩ := pickP_pos hp0
    obtain ⟨_, hr1⟩ := h.step hp0 hp1 hr
    have er : wrap64 (rd rest (pickP l rest now obj) - 1) = rd rest (pickP l rest now obj) - 1 := by
      have hle : rd rest (pickP l rest now obj) ≤ rest.sum := by
        have hm := (sum_set rest (pickP l rest now obj).toNat 0 (by omega))
        have h2 := sum_nonneg (rest.set (pickP l rest now obj).toNat 0) (fun v hv => by
          rcases List.mem_or_eq_of_mem_set hv with h1 | h1
          · exact h.nn v h1
          · omega)
        show rest.getD (pickP l rest now obj).toNat 0 ≤ _
        omega
      have := h.sum
      exact wrap_id (by omega) (by omega)
    have e0 : ∀ i : Int, rd_T130 spans i = spans.getD i.toNat z130 := fun _ => rfl
    have e1 : ((spans.length : Int) - 1).toNat = spans.length - 1 := by omega
    simp only [er, e0, e1, if_pos hp0, if_pos (show pickP l rest now obj < (rest.length : Int) by omega), if_pos (show pickP l rest now obj < (ends.length : Int) by omega), if_pos (show spans.length < 5864062014805 by omega)]
    unfold spansUp
    by_cases hz : 0 < spans.length
    · rw [if_pos (show (spans.length : Int) - 1 ≥ 0 by omega), if_pos (show (0 : Int) ≤ (spans.length : Int) - 1 by omega), if_pos (show (spans.length : Int) - 1 < (spans.length : Int) by omega)]
      by_cases h0 : (spans.getD (spans.length - 1) z130).f0 = pickP l rest now obj
      · rw [if_pos h0]
        by_cases h2 : (spans.getD (spans.length - 1) z130).f2 = now
        · rw [if_pos h2, if_pos (show 0 < spans.length ∧ _ ∧ _ from ⟨hz, h0, h2⟩), h2, en]
        · rw [if_neg h2, if_neg (fun hh => h2 hh.2.2)]
      · rw [if_neg h0, if_neg (fun hh => h0 hh.2.1)]
    · rw [if_neg (show ¬ ((spans.length : Int) - 1 ≥ 0) by omega), if_neg (fun hh => hz hh.1)]
/-- Both make the same spans; the program tells the ends, too. -/
theorem choose_both (l : List S101) (obj : Int) (hobj : obj = 2 ∨ obj = 4) (hg : Good l) : ∀ (m : Nat) (rest ends : List Int) (left now : Int) (spans : List S130), ChSt l rest left now → ends.length = l.length → left.toNat + (501 - now).toNat ≤ m → now + m ≤ 50000 → spans.length + m ≤ 50000 → left ≤ 50000 →
    (∀ e ∈ ends, 0 ≤ e ∧ e ≤ 50000) →
    ∃ (S : List S130) (E : List Int), L (fun k => spec_l5Choose.l1 k l obj spans rest left now) = some S ∧ L (fun k => impl_choose.l2 k l obj rest ends left now spans) = some (S, E) ∧ S.length ≤ spans.length + m ∧ E.length = l.length ∧ ∀ e ∈ E, 0 ≤ e ∧ e ≤ 50000 := by
  have h8 := hg.1
  intro m
  induction m with
  | zero =>
    intro rest ends left now spans h he hm hn hs hl hE
    refine ⟨spans, ends, ?_, ?_, by omega, he, hE⟩
    · rw [L_shift]
      simp only [spec_l5Choose.l1, if_neg (show ¬ (left > 0) by omega), L_const]
    · rw [L_shift]
      simp only [impl_choose.l2, if_neg (show ¬ (left > 0) by omega), L_const]
  | succ m ih =>
    intro rest ends left now spans h he hm hn hs hl hE
    by_cases hl0 : 0 < left
    · have hnow := h.now0
      rw [choose_spec_step l rest left now obj spans hobj h (by omega) hl0 (by omega) (by omega) (by omega), choose_impl_step l rest ends left now obj spans hobj h he (by omega) hl0 (by omega) (by omega) (by omega)]
      by_cases hp : pickP l rest now obj < 0
      · have h499 := h.pick_neg hg hl0 hp
        simp only [if_pos hp]
        obtain ⟨S, E, h1, h2, h3, h4, h5⟩ := ih rest ends left (now + 1) spans ⟨h.len, h.nn, h.sum, by omega⟩ he (by omega) (by omega) (by omega) hl hE
        exact ⟨S, E, h1, h2, by omega, h4, h5⟩
      · simp only [if_neg hp]
        have hp0 : 0 ≤ pickP l rest now obj := by omega
        obtain ⟨hp1, hr⟩ := pickP_pos hp0
        obtain ⟨hst, _⟩ := h.step hp0 hp1 hr
        have hsl := spansUp_length spans (pickP l rest now obj) now
        obtain ⟨S, E, h1, h2, h3, h4, h5⟩ := ih _ (ends.set (pickP l rest now obj).toNat (now + 1)) (left - 1) (now + 1) (spansUp spans (pickP l rest now obj) now) hst (by rw [List.length_set, he]) (by omega) (by omega) (by omega) (by omega) (fun e hem => by
          rcases List.mem_or_eq_of_mem_set hem with h1 | h1
          · exact hE e h1
          · omega)
        exact ⟨S, E, h1, h2, by omega, h4, h5⟩
    · refine ⟨spans, ends, ?_, ?_, by omega, he, hE⟩
      · rw [L_shift]
        simp only [spec_l5Choose.l1, if_neg (show ¬ (left > 0) by omega), L_const]
      · rw [L_shift]
        simp only [impl_choose.l2, if_neg (show ¬ (left > 0) by omega), L_const]
-- rests
def timesP (l : List S101) : List Int := l.map (·.f0)
theorem timesP_length (l : List S101) : (timesP l).length = l.length := by simp [timesP]
theorem timesP_sum (l : List S101) : (timesP l).sum = timeSum l := rfl
-- l5Rests
theorem l5Rests_l (r : List S101) : ∀ (pre : List S101) (out : List Int), (pre ++ r).length < 1000000 → out.length + r.length < 1000000 → L (fun k => spec_l5Rests.l0 k (pre ++ r) out (pre.length : Int)) = some (out ++ timesP r) := by
  induction r with
  | nil =>
    intro pre out hb hc
    rw [L_shift]
    simp only [spec_l5Rests.l0, not_lt_end, if_false, L_const]
    simp [timesP]
  | cons x r ih =>
    intro pre out hb hc
    rw [L_shift]
    have hl : pre.length < 4611686018427387904 := by simp at hb; omega
    simp only [List.length_cons] at hc
    have e : rd_T101 (pre ++ x :: r) (pre.length : Int) = x := getD_mid pre x r _
    simp only [spec_l5Rests.l0, lt_mid, le_nat, if_true, e, wrap_mid pre x hl, if_pos (show out.length < 17592186044416 by omega)]
    rw [app_cons pre x r, ih (pre ++ [x]) _ (by simpa using hb) (by simp; omega)]
    simp [timesP]
theorem l5Rests_L (l : List S101) (h : l.length < 100000) : L (fun k => spec_l5Rests.f k l) = some (timesP l) := by
  have := l5Rests_l l [] [] (by simp; omega) (by simp; omega)
  simpa [spec_l5Rests.f] using this
-- l5ChooseStart
theorem l5Choose_l (l : List S101) (obj from_ : Int) (r : List Int) (hr : ∀ v ∈ r, 0 ≤ v ∧ v ≤ 1000) : ∀ (pre : List Int) (left : Int), (pre ++ r).length < 100000 → 0 ≤ left → left + 1000 * r.length ≤ 1000000000 →
    L (fun k => spec_l5Choose.l0 k l from_ obj [] (pre ++ r) left (pre.length : Int)) = L (fun k => spec_l5Choose.l1 k l obj [] (pre ++ r) (left + r.sum) from_) := by
  induction r with
  | nil =>
    intro pre left hb h0 h1
    rw [L_shift]
    simp only [spec_l5Choose.l0, not_lt_end, if_false]
    simp
  | cons x r ih =>
    intro pre left hb h0 h1
    rw [L_shift]
    have hl : pre.length < 4611686018427387904 := by simp at hb; omega
    have hx := hr x List.mem_cons_self
    simp only [List.length_cons] at h1
    simp only [spec_l5Choose.l0, lt_mid, le_nat, if_true, rd_mid, wrap_mid pre x hl, wrap_id (show -9223372036854775808 ≤ left + x by omega) (show left + x ≤ 9223372036854775807 by omega)]
    rw [app_cons pre x r, ih (fun v hv => hr v (List.mem_cons_of_mem _ hv)) (pre ++ [x]) _ (by simpa using hb) (by omega) (by omega), List.sum_cons]
    simp only [Int.add_assoc]
theorem l5Choose_L (l : List S101) (obj from_ : Int) (rest : List Int) (hr : ∀ v ∈ rest, 0 ≤ v ∧ v ≤ 1000) (h : rest.length < 1000) : L (fun k => spec_l5Choose.f k l rest from_ obj) = L (fun k => spec_l5Choose.l1 k l obj [] rest rest.sum from_) := by
  have := l5Choose_l l obj from_ rest hr [] 0 (by simp; omega) (by omega) (by omega)
  simp only [List.nil_append, List.length_nil, Int.natCast_zero, Int.zero_add] at this
  simp only [spec_l5Choose.f, l1Own_e rest (by omega), Option.bind_some, this]
-- chooseStart
theorem choose_l0_nil (l : List S101) (obj : Int) (ends : List Int) (hg : ∀ j ∈ l, JobOk j) (r : List S101) (hr : ∀ j ∈ r, JobOk j) : ∀ (pre : List S101) (left : Int), (pre ++ r).length < 100000 → 0 ≤ left → left + 50 * r.length ≤ 1000000000 →
    L (fun k => impl_choose.l0 k l [] obj (timesP pre ++ List.replicate r.length 0) ends left 0 (pre ++ r) ((pre ++ r).length : Int) (pre.length : Int)) = L (fun k => impl_choose.l2 k l obj (timesP (pre ++ r)) ends (left + timeSum r) 0 []) := by
  induction r with
  | nil =>
    intro pre left hb h0 h1
    rw [L_shift]
    simp only [impl_choose.l0, not_lt_end, if_false]
    rw [L_shift]
    simp only [impl_choose.l1, List.length_nil, Int.natCast_zero, if_neg (show ¬ ((0 : Int) < 0) by omega)]
    simp [timeSum]
  | cons x r ih =>
    intro pre left hb h0 h1
    rw [L_shift]
    have hl : pre.length < 4611686018427387904 := by simp at hb; omega
    have hx := hr x List.mem_cons_self
    have t0 := hx.t0
    have t1 := hx.t1
    simp only [List.length_cons] at h1
    have e : rd_T101 (pre ++ x :: r) (pre.length : Int) = x := getD_mid pre x r _
    have e2 : ((pre.length : Int) < ((timesP pre ++ 0 :: List.replicate r.length 0).length : Int)) = True := by
      simp only [List.length_append, List.length_cons, timesP_length]
      exact eq_true (by omega)
    simp only [impl_choose.l0, lt_mid, le_nat, if_true, L_bind, has_L [] _ (by simp), List.not_mem_nil, decide_false, Option.bind_some, Bool.false_eq_true, if_false, rep_succ, e, e2, wrap_mid pre x hl, set_mid (timesP pre) _ _ _ pre (timesP_length pre).symm, wrap_id (show -9223372036854775808 ≤ left + x.f0 by omega) (show left + x.f0 ≤ 9223372036854775807 by omega)]
    have := ih (fun j hj => hr j (List.mem_cons_of_mem _ hj)) (pre ++ [x]) (left + x.f0) (by simpa using hb) (by omega) (by omega)
    have e3 : timesP (pre ++ [x]) = timesP pre ++ [x.f0] := by simp [timesP]
    rw [e3] at this
    rw [app_cons pre x r, app_cons (timesP pre) x.f0, this, timeSum_cons, Int.add_assoc]
theorem choose_start (l : List S101) (obj : Int) (hg : Good l) : L (fun k => impl_choose.f k l [] obj) = L (fun k => impl_choose.l2 k l obj (timesP l) (List.replicate l.length 0) (timeSum l) 0 []) := by
  have h8 := hg.1
  have := choose_l0_nil l obj (List.replicate l.length 0) hg.2 l hg.2 [] 0 (by simp; omega) (by omega) (by omega)
  simp only [List.nil_append, List.length_nil, Int.natCast_zero, Int.zero_add] at this
  have e : timesP [] = [] := rfl
  rw [e, List.nil_append] at this
  simp only [impl_choose.f, le_nat, if_true, Int.toNat_natCast, if_pos (show l.length ≤ 35184372088832 by omega), this]
-- chooseAll
theorem chSt_start {l : List S101} (hg : Good l) : ChSt l (timesP l) (timeSum l) 0 :=
  ⟨timesP_length l, fun v hv => by
    obtain ⟨j, hj, rfl⟩ := List.mem_map.1 hv
    have := (hg.2 j hj).t0
    omega, rfl, by omega⟩
theorem choose_all (l : List S101) (obj : Int) (hobj : obj = 2 ∨ obj = 4) (hg : Good l) : ∃ (S : List S130) (E : List Int), L (fun k => spec_l5Choose.f k l (timesP l) 0 obj) = some S ∧ L (fun k => impl_choose.f k l [] obj) = some (S, E) ∧ S.length ≤ 10000 ∧ E.length = l.length ∧ ∀ e ∈ E, 0 ≤ e ∧ e ≤ 50000 := by
  have h8 := hg.1
  have ht := timeSum_bounds l hg.2
  obtain ⟨S, E, h1, h2, h3, h4, h5⟩ := choose_both l obj hobj hg 1000 (timesP l) (List.replicate l.length 0) (timeSum l) 0 [] (chSt_start hg) (by simp) (by omega) (by omega) (by simp) (by omega) (fun e he => by rw [(List.mem_replicate.1 he).2]; omega)
  refine ⟨S, E, ?_, ?_, by simp at h3; omega, h4, h5⟩
  · rw [l5Choose_L l obj 0 (timesP l) (fun v hv => by
      obtain ⟨j, hj, rfl⟩ := List.mem_map.1 hv
      have := (hg.2 j hj).t0
      have := (hg.2 j hj).t1
      omega) (by rw [timesP_length]; omega)]
    exact h1
  · rw [choose_start l obj hg]
    exact h2

theorem ByLeastRest_both (l : List S101) (h : l.length ≤ 1048576) :
    ∃ (R : List S130) (b : Bool), L (fun k => spec_ByLeastRest.f k l) = some (R, b) ∧ L (fun k => impl_ByLeastRest.f k l) = some (R, b) ∧ R.length ≤ 1048576 := by
  simp only [spec_ByLeastRest.f, impl_ByLeastRest.f, L_bind, L_ite, L_const, l2Good_L l (by omega), IsJobs_L l (by omega), Option.bind_some]
  cases hg : goodB l with
  | false => exact ⟨[], false, by simp, by simp, by simp⟩
  | true =>
    have hgood := goodB_iff.1 hg
    have h8 := hgood.1
    obtain ⟨S, E, h1, h2, h3, _⟩ := choose_all l 2 (by omega) hgood
    exact ⟨S, true, by simp only [if_true, l5Rests_L l (by omega), Option.bind_some, h1], by simp only [if_true, h2, Option.bind_some], by omega⟩
theorem laws_FnExactByLeastRest_j0 (x0 : List (S103)) (x4 : List (S130)) (x5 : Bool) (x6 : List (S101)) (x7 : List (S130)) (x8 : Bool) (x40 : Bool) : L (fun k => laws_FnExactByLeastRest.j0 k x0 x4 x5 x6 x7 x8 x40) = L (fun k => if x40 = true then (some false) else ((laws_toJobS.f k x0).bind fun t1335 => ((laws_eqJobS.f k x6 t1335).bind fun t1338 => (if t1338 = true then ((laws_markJobS.f k x6 1).bind fun bt1339 => (if bt1339.1 < 0 then (laws_FnExactByLeastRest.j1 k x0 x4 x5 x7 true) else ((laws_eqSpanS.f k x7 x4).bind fun t1341 => (if t1341 = true then (laws_FnExactByLeastRest.j1 k x0 x4 x5 x7 (x8 != x5)) else (laws_FnExactByLeastRest.j1 k x0 x4 x5 x7 true))))) else (some false))))) := by
  rw [L_shift]
  simp only [laws_FnExactByLeastRest.j0]
theorem laws_FnExactByLeastRest_j0f (x0 : List (S103)) (x4 : List (S130)) (x5 : Bool) (x6 : List (S101)) (x7 : List (S130)) (x8 : Bool) : L (fun k => laws_FnExactByLeastRest.j0 k x0 x4 x5 x6 x7 x8 false) = L (fun k => (laws_toJobS.f k x0).bind fun t1335 => ((laws_eqJobS.f k x6 t1335).bind fun t1338 => (if t1338 = true then ((laws_markJobS.f k x6 1).bind fun bt1339 => (if bt1339.1 < 0 then (laws_FnExactByLeastRest.j1 k x0 x4 x5 x7 true) else ((laws_eqSpanS.f k x7 x4).bind fun t1341 => (if t1341 = true then (laws_FnExactByLeastRest.j1 k x0 x4 x5 x7 (x8 != x5)) else (laws_FnExactByLeastRest.j1 k x0 x4 x5 x7 true))))) else (some false)))) := by
  rw [L_shift]
  simp only [laws_FnExactByLeastRest.j0, Bool.false_eq_true, if_false]
theorem laws_FnExactByLeastRest_j1 (x0 : List (S103)) (x4 : List (S130)) (x5 : Bool) (x7 : List (S130)) (x61 : Bool) : L (fun k => laws_FnExactByLeastRest.j1 k x0 x4 x5 x7 x61) = L (fun k => if x61 = true then (some false) else ((laws_markSpanS.f k x7 1).bind fun bt1342 => ((laws_heldSpanS.f k bt1342.2 1).bind fun t1344 => (if t1344 < 0 then (some false) else (if t1344 = bt1342.1 then ((laws_toJobS.f k x0).bind fun t1345 => ((impl_ByLeastRest.f k t1345).bind fun bt1348 => ((laws_eqSpanS.f k bt1348.1 x4).bind fun t1352 => (if t1352 = true then (laws_FnExactByLeastRest.j2 k bt1342.2 bt1342.1 (bt1348.2 != x5)) else (laws_FnExactByLeastRest.j2 k bt1342.2 bt1342.1 true))))) else (some false)))))) := by
  rw [L_shift]
  simp only [laws_FnExactByLeastRest.j1]
theorem laws_FnExactByLeastRest_j1f (x0 : List (S103)) (x4 : List (S130)) (x5 : Bool) (x7 : List (S130)) : L (fun k => laws_FnExactByLeastRest.j1 k x0 x4 x5 x7 false) = L (fun k => (laws_markSpanS.f k x7 1).bind fun bt1342 => ((laws_heldSpanS.f k bt1342.2 1).bind fun t1344 => (if t1344 < 0 then (some false) else (if t1344 = bt1342.1 then ((laws_toJobS.f k x0).bind fun t1345 => ((impl_ByLeastRest.f k t1345).bind fun bt1348 => ((laws_eqSpanS.f k bt1348.1 x4).bind fun t1352 => (if t1352 = true then (laws_FnExactByLeastRest.j2 k bt1342.2 bt1342.1 (bt1348.2 != x5)) else (laws_FnExactByLeastRest.j2 k bt1342.2 bt1342.1 true))))) else (some false))))) := by
  rw [L_shift]
  simp only [laws_FnExactByLeastRest.j1, Bool.false_eq_true, if_false]
theorem laws_FnExactByLeastRest_j2 (x7 : List (S130)) (x10 : Int) (x87 : Bool) : L (fun k => laws_FnExactByLeastRest.j2 k x7 x10 x87) = L (fun k => if x87 = true then (some false) else ((laws_heldSpanS.f k x7 1).bind fun t1353 => (if t1353 < 0 then (some false) else (if t1353 = x10 then (some true) else (some false))))) := by
  rw [L_shift]
  simp only [laws_FnExactByLeastRest.j2]
theorem laws_FnExactByLeastRest_j2f (x7 : List (S130)) (x10 : Int) : L (fun k => laws_FnExactByLeastRest.j2 k x7 x10 false) = L (fun k => (laws_heldSpanS.f k x7 1).bind fun t1353 => (if t1353 < 0 then (some false) else (if t1353 = x10 then (some true) else (some false)))) := by
  rw [L_shift]
  simp only [laws_FnExactByLeastRest.j2, Bool.false_eq_true, if_false]
theorem FnExactByLeastRest : laws_FnExactByLeastRest.Pure := by
  intro l h1 _
  have e1 : maxLen = 9223372036854775807 := rfl
  refine rounds_of_L ?_
  simp only [laws_FnExactByLeastRest.f, L_ite, L_const, szJobS_e l (by omega)]
  by_cases hl : l.length ≤ 1048576
  · have hl2 : (l.map toJobP).length ≤ 1048576 := by simpa using hl
    obtain ⟨R, b, hs, hi, hR⟩ := ByLeastRest_both (l.map toJobP) hl2
    rw [if_pos hl]
    simp (disch := omega) only [lt0, Option.bind_some, L_bind, L_ite, L_const, toJobS_L l hl, hs, hi, eqJobS_L _ hl2, markJobS_L, markSpanS_L R, heldSpanS_L R, eqSpanS_L R hR, laws_FnExactByLeastRest_j0f, laws_FnExactByLeastRest_j1f, laws_FnExactByLeastRest_j2f, if_true, Bool.false_eq_true, if_false, bne_self_eq_false]
  · rw [if_neg hl]
    simp only [Option.bind_some, if_pos (show (-1 : Int) < 0 by decide), L_const]
end Go.Proofs.Ytdjjbdmnbmhmpaa.Pure
