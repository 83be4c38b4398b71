/- The program's InversionsOf answers what the reference's answers, for all lists of jobs, orders and objectives. -/
import Derived.Test.YtgpnophjbibhhaaXSFnExactInversionsOf
import Derived.Test.YtgpnophjbibhhaaXLim
namespace Go.Proofs.Ytgpnophjbibhhaa.Pure
open Go.RowKit Go.Proofs.YtgpnophjbibhhaaW.PrintWords Go.Proofs.YtgpnophjbibhhaaW.PrintLast Go.Proofs.YtgpnophjbibhhaaW.PrintMore Go.Proofs.Ytgpnophjbibhhaa.X Go.Proofs.Ytgpnophjbibhhaa.XRow Go.Proofs.Ytgpnophjbibhhaa.XLim
set_option linter.unusedVariables false
set_option linter.unusedSimpArgs false
instance : ∀ a0 a1 a2, Mono (fun k => impl_InversionsOf.f k a0 a1 a2) := fun a0 a1 a2 => ⟨⟨impl_InversionsOf.mono a0 a1 a2⟩⟩
instance : ∀ a0, Mono (fun k => impl_IsJobs.f k a0) := fun a0 => ⟨⟨impl_IsJobs.mono a0⟩⟩
instance : ∀ a0 a1, Mono (fun k => impl_areDifferent.f k a0 a1) := fun a0 a1 => ⟨⟨impl_areDifferent.mono a0 a1⟩⟩
instance : ∀ a0 a1, Mono (fun k => impl_has.f k a0 a1) := fun a0 a1 => ⟨⟨impl_has.mono a0 a1⟩⟩
instance : ∀ a0 a1 a2, Mono (fun k => impl_inversions.f k a0 a1 a2) := fun a0 a1 a2 => ⟨⟨impl_inversions.mono a0 a1 a2⟩⟩
instance : ∀ a0 a1, Mono (fun k => impl_isOrder.f k a0 a1) := fun a0 a1 => ⟨⟨impl_isOrder.mono a0 a1⟩⟩
instance : ∀ a0, Mono (fun k => impl_isPlain.f k a0) := fun a0 => ⟨⟨impl_isPlain.mono a0⟩⟩
instance : ∀ a0 a1, Mono (fun k => impl_isRuled.f k a0 a1) := fun a0 a1 => ⟨⟨impl_isRuled.mono a0 a1⟩⟩
instance : ∀ a0 a1 a2, Mono (fun k => impl_isRuledAndOrdered.f k a0 a1 a2) := fun a0 a1 a2 => ⟨⟨impl_isRuledAndOrdered.mono a0 a1 a2⟩⟩
instance : ∀ a0 a1 a2, Mono (fun k => laws_FnExactInversionsOf.f k a0 a1 a2) := fun a0 a1 a2 => ⟨⟨laws_FnExactInversionsOf.mono a0 a1 a2⟩⟩
instance : ∀ a0 a1, Mono (fun k => laws_eqIntA2S.f k a0 a1) := fun a0 a1 => ⟨⟨laws_eqIntA2S.mono a0 a1⟩⟩
instance : ∀ a0 a1, Mono (fun k => laws_eqIntS.f k a0 a1) := fun a0 a1 => ⟨⟨laws_eqIntS.mono a0 a1⟩⟩
instance : ∀ a0 a1, Mono (fun k => laws_eqJobS.f k a0 a1) := fun a0 a1 => ⟨⟨laws_eqJobS.mono a0 a1⟩⟩
instance : ∀ a0 a1, Mono (fun k => laws_heldIntA2S.f k a0 a1) := fun a0 a1 => ⟨⟨laws_heldIntA2S.mono a0 a1⟩⟩
instance : ∀ a0 a1, Mono (fun k => laws_markIntA2S.f k a0 a1) := fun a0 a1 => ⟨⟨laws_markIntA2S.mono a0 a1⟩⟩
instance : ∀ a0 a1, Mono (fun k => laws_markIntS.f k a0 a1) := fun a0 a1 => ⟨⟨laws_markIntS.mono a0 a1⟩⟩
instance : ∀ a0 a1, Mono (fun k => laws_markJobS.f k a0 a1) := fun a0 a1 => ⟨⟨laws_markJobS.mono a0 a1⟩⟩
instance : ∀ a0, Mono (fun k => laws_toIntS.f k a0) := fun a0 => ⟨⟨laws_toIntS.mono a0⟩⟩
instance : ∀ a0, Mono (fun k => laws_toJobS.f k a0) := fun a0 => ⟨⟨laws_toJobS.mono a0⟩⟩
instance : ∀ a0 a1 a2, Mono (fun k => spec_InversionsOf.f k a0 a1 a2) := fun a0 a1 a2 => ⟨⟨spec_InversionsOf.mono a0 a1 a2⟩⟩
instance : ∀ a0 a1, Mono (fun k => spec_l1Has.f k a0 a1) := fun a0 a1 => ⟨⟨spec_l1Has.mono a0 a1⟩⟩
instance : ∀ a0, Mono (fun k => spec_l2Good.f k a0) := fun a0 => ⟨⟨spec_l2Good.mono a0⟩⟩
instance : ∀ a0 a1, Mono (fun k => spec_l2Order.f k a0 a1) := fun a0 a1 => ⟨⟨spec_l2Order.mono a0 a1⟩⟩
instance : ∀ a0 a1 a2, Mono (fun k => spec_l3Both.f k a0 a1 a2) := fun a0 a1 a2 => ⟨⟨spec_l3Both.mono a0 a1 a2⟩⟩
instance : ∀ a0 a1 a2, Mono (fun k => spec_l3Inversions.f k a0 a1 a2) := fun a0 a1 a2 => ⟨⟨spec_l3Inversions.mono a0 a1 a2⟩⟩
instance : ∀ a0, Mono (fun k => spec_l3Plain.f k a0) := fun a0 => ⟨⟨spec_l3Plain.mono a0⟩⟩
instance : ∀ a0 a1, Mono (fun k => spec_l3Ruled.f k a0 a1) := fun a0 a1 => ⟨⟨spec_l3Ruled.mono a0 a1⟩⟩
theorem lt_mid {α : Type} (pre : List α) (x : α) (r : List α) : ((pre.length : Int) < ((pre ++ x :: r).length : Int)) = True := by
  simp only [List.length_append, List.length_cons]
  exact eq_true (by omega)
theorem not_lt_end {α : Type} (pre : List α) : ((pre.length : Int) < ((pre ++ []).length : Int)) = False := by
  simp
theorem le_nat (n : Nat) : (0 ≤ (n : Int)) = True := eq_true (by omega)
theorem getD_mid {α : Type} (pre : List α) (x : α) (r : List α) (d : α) : (pre ++ x :: r).getD (pre.length : Int).toNat d = x := by
  simp [List.getD_eq_getElem?_getD]
theorem rd_mid (pre : List Int) (x : Int) (r : List Int) : rd (pre ++ x :: r) (pre.length : Int) = x := getD_mid pre x r 0
theorem wrap_mid {α : Type} (pre : List α) (x : α) (h : pre.length < 4611686018427387904) : wrap64 ((pre.length : Int) + 1) = ((pre ++ [x]).length : Int) := by
  rw [wrap_id (by omega) (by omega)]
  simp
theorem set_mid {α β : Type} (a : List α) (y v : α) (b : List α) (pre : List β) (h : pre.length = a.length) : (a ++ y :: b).set (pre.length : Int).toNat v = a ++ v :: b := by
  rw [Int.toNat_natCast, h, List.set_append_right _ _ (Nat.le_refl _)]
  simp
theorem rep_succ {α : Type} (x : α) (r : List α) {β : Type} (z : β) : List.replicate (x :: r).length z = z :: List.replicate r.length z := rfl
theorem app_cons {α : Type} (pre : List α) (x : α) (r : List α) : pre ++ x :: r = (pre ++ [x]) ++ r := by simp
theorem lt0 {a : Int} (h : 0 ≤ a) : (a < 0) = False := eq_false (by omega)
theorem toIntS_l (r : List Int) : ∀ pre : List Int, (pre ++ r).length < 4611686018427387904 → L (fun k => laws_toIntS.l0 k (pre ++ r) (pre ++ List.replicate r.length 0) (pre.length : Int)) = some (pre ++ r) := by
  induction r with
  | nil =>
    intro pre hb
    rw [L_shift]
    simp only [laws_toIntS.l0, not_lt_end, if_false, L_const, List.length_nil, List.replicate_zero]
  | cons x r ih =>
    intro pre hb
    rw [L_shift]
    have hl : pre.length < 4611686018427387904 := by simp at hb; omega
    simp only [laws_toIntS.l0, lt_mid, le_nat, if_true, rep_succ, rd_mid, wrap_mid pre x hl, set_mid pre _ x _ pre rfl]
    rw [app_cons pre x r, app_cons pre x (List.replicate _ _)]
    exact ih (pre ++ [x]) (by simpa using hb)
theorem toIntS_L (l : List Int) (h : l.length ≤ 1048576) : L (fun k => laws_toIntS.f k l) = some l := by
  simp only [laws_toIntS.f, le_nat, if_true, Int.toNat_natCast, if_pos (show l.length ≤ 35184372088832 by omega)]
  exact toIntS_l l [] (by simp; omega)
theorem eqIntS_l (r : List Int) : ∀ pre : List Int, (pre ++ r).length < 4611686018427387904 → L (fun k => laws_eqIntS.l0 k (pre ++ r) (pre ++ r) (pre.length : Int)) = some true := by
  induction r with
  | nil =>
    intro pre hb
    rw [L_shift]
    simp only [laws_eqIntS.l0, not_lt_end, if_false, L_const]
  | cons x r ih =>
    intro pre hb
    rw [L_shift]
    have hl : pre.length < 4611686018427387904 := by simp at hb; omega
    simp only [laws_eqIntS.l0, lt_mid, le_nat, if_true, rd_mid, wrap_mid pre x hl]
    rw [app_cons pre x r]
    exact ih (pre ++ [x]) (by simpa using hb)
theorem eqIntS_L (l : List Int) (h : l.length ≤ 1048576) : L (fun k => laws_eqIntS.f k l l) = some true := by
  simp only [laws_eqIntS.f, if_true]
  exact eqIntS_l l [] (by simp; omega)
def toJobP (x : S96) : S89 := ⟨x.f0, x.f1, x.f2, x.f3⟩
theorem toJobS_l (r : List S96) : ∀ pre : List S96, (pre ++ r).length < 4611686018427387904 → L (fun k => laws_toJobS.l0 k (pre ++ r) (pre.map toJobP ++ List.replicate r.length z89) (pre.length : Int)) = some ((pre ++ r).map toJobP) := by
  induction r with
  | nil =>
    intro pre hb
    rw [L_shift]
    simp only [laws_toJobS.l0, not_lt_end, if_false, L_const, List.length_nil, List.replicate_zero]
    simp
  | cons x r ih =>
    intro pre hb
    rw [L_shift]
    have hl : pre.length < 4611686018427387904 := by simp at hb; omega
    have e : rd_T96 (pre ++ x :: r) (pre.length : Int) = x := getD_mid pre x r _
    have e2 : ((pre.length : Int) < ((pre.map toJobP ++ z89 :: List.replicate r.length z89).length : Int)) = True := by
      simp only [List.length_append, List.length_cons, List.length_map]
      exact eq_true (by omega)
    simp only [laws_toJobS.l0, laws_toJob.f, lt_mid, le_nat, if_true, rep_succ, e, e2, wrap_mid pre x hl, Option.bind_some, set_mid (pre.map toJobP) _ _ _ pre (by simp)]
    have := ih (pre ++ [x]) (by simpa using hb)
    simpa [toJobP] using this
theorem toJobS_L (l : List S96) (h : l.length ≤ 1048576) : L (fun k => laws_toJobS.f k l) = some (l.map toJobP) := by
  simp only [laws_toJobS.f, le_nat, if_true, Int.toNat_natCast, if_pos (show l.length ≤ 8796093022208 by omega)]
  exact toJobS_l l [] (by simp; omega)
theorem eqJobS_l (r : List S89) : ∀ pre : List S89, (pre ++ r).length < 4611686018427387904 → L (fun k => laws_eqJobS.l0 k (pre ++ r) (pre ++ r) (pre.length : Int)) = some true := by
  induction r with
  | nil =>
    intro pre hb
    rw [L_shift]
    simp only [laws_eqJobS.l0, not_lt_end, if_false, L_const]
  | cons x r ih =>
    intro pre hb
    rw [L_shift]
    have hl : pre.length < 4611686018427387904 := by simp at hb; omega
    simp only [laws_eqJobS.l0, laws_eqJob.f, lt_mid, le_nat, if_true, wrap_mid pre x hl, Option.bind_some]
    rw [app_cons pre x r]
    exact ih (pre ++ [x]) (by simpa using hb)
theorem eqJobS_L (l : List S89) (h : l.length ≤ 1048576) : L (fun k => laws_eqJobS.f k l l) = some true := by
  simp only [laws_eqJobS.f, if_true]
  exact eqJobS_l l [] (by simp; omega)
theorem szJobS_e (l : List S96) (h : l.length ≤ 9223372036854775807) : laws_szJobS.f l 1048576 = if l.length ≤ 1048576 then some (1048576 - (l.length : Int)) else some (-1) := by
  unfold laws_szJobS.f
  have e : wrap64 (1048576 - (l.length : Int)) = 1048576 - (l.length : Int) := wrap_id (by omega) (by omega)
  rw [e]
  by_cases h2 : l.length ≤ 1048576
  · rw [if_neg (by omega), if_pos h2]
  · rw [if_pos (by omega), if_neg h2]
/-- The numbers from v on, as many as a list has. -/
def countI {α : Type} : Int → List α → List Int
  | _, [] => []
  | v, _ :: r => v :: countI (v + 1) r
theorem markIntS_l (r : List Int) : ∀ (pre : List Int) (v : Int), (pre ++ r).length < 4611686018427387904 → 0 ≤ v → v + r.length < 9223372036854775807 → L (fun k => laws_markIntS.l0 k (pre ++ r) v (pre.length : Int)) = some (v + r.length, pre ++ countI v r) := by
  induction r with
  | nil =>
    intro pre v hb h0 h1
    rw [L_shift]
    simp only [laws_markIntS.l0, not_lt_end, if_false, L_const]
    simp [countI]
  | cons x r ih =>
    intro pre v hb h0 h1
    rw [L_shift]
    have hl : pre.length < 4611686018427387904 := by simp at hb; omega
    simp only [List.length_cons] at h1
    simp only [laws_markIntS.l0, lt_mid, le_nat, if_true, wrap_mid pre v hl, set_mid pre x v r pre rfl, wrap_id (show -9223372036854775808 ≤ v + 1 by omega) (show v + 1 ≤ 9223372036854775807 by omega)]
    rw [app_cons pre v r, ih (pre ++ [v]) (v + 1) (by simpa using hb) (by omega) (by omega)]
    simp only [countI, List.length_cons, Option.some.injEq, Prod.mk.injEq]
    exact ⟨by omega, by simp⟩
theorem markIntS_L (l : List Int) (v : Int) (h : l.length ≤ 1048576) (h0 : 0 ≤ v) (h1 : v ≤ 1000000000) : L (fun k => laws_markIntS.f k l v) = some (v + l.length, countI v l) := by
  have := markIntS_l l [] v (by simp; omega) h0 (by omega)
  simpa [laws_markIntS.f] using this
def countJ : Int → List S89 → List S89
  | _, [] => []
  | v, _ :: r => ⟨v, v + 1, v + 1 + 1, v + 1 + 1 + 1⟩ :: countJ (v + 1 + 1 + 1 + 1) r
theorem markJobS_l (r : List S89) : ∀ (pre : List S89) (v : Int), (pre ++ r).length < 4611686018427387904 → 0 ≤ v → v + 4 * r.length < 9223372036854775807 → L (fun k => laws_markJobS.l0 k (pre ++ r) v (pre.length : Int)) = some (v + 4 * r.length, pre ++ countJ v r) := by
  induction r with
  | nil =>
    intro pre v hb h0 h1
    rw [L_shift]
    simp only [laws_markJobS.l0, not_lt_end, if_false, L_const]
    simp [countJ]
  | cons x r ih =>
    intro pre v hb h0 h1
    rw [L_shift]
    have hl : pre.length < 4611686018427387904 := by simp at hb; omega
    simp only [List.length_cons] at h1
    have e : ∀ y, rd_T89 (pre ++ y :: r) (pre.length : Int) = y := fun y => getD_mid pre y r _
    have es : ∀ y z, (pre ++ y :: r).set (pre.length : Int).toNat z = pre ++ z :: r := fun y z => set_mid pre y z r pre rfl
    simp only [laws_markJobS.l0, lt_mid, le_nat, if_true, Option.bind_some, e, es, wrap_mid pre x hl, wrap_id (show -9223372036854775808 ≤ v + 1 by omega) (show v + 1 ≤ 9223372036854775807 by omega), wrap_id (show -9223372036854775808 ≤ v + 1 + 1 by omega) (show v + 1 + 1 ≤ 9223372036854775807 by omega), wrap_id (show -9223372036854775808 ≤ v + 1 + 1 + 1 by omega) (show v + 1 + 1 + 1 ≤ 9223372036854775807 by omega), wrap_id (show -9223372036854775808 ≤ v + 1 + 1 + 1 + 1 by omega) (show v + 1 + 1 + 1 + 1 ≤ 9223372036854775807 by omega)]
    have := ih (pre ++ [⟨v, v + 1, v + 1 + 1, v + 1 + 1 + 1⟩]) (v + 1 + 1 + 1 + 1) (by simpa using hb) (by omega) (by omega)
    simp only [List.append_assoc, List.cons_append, List.nil_append, List.length_append, List.length_cons, List.length_nil] at this ⊢
    rw [this]
    simp only [countJ, Option.some.injEq, Prod.mk.injEq]
    exact ⟨by omega, by first | rfl | trivial⟩
theorem markJobS_L (l : List S89) (v : Int) (h : l.length ≤ 1048576) (h0 : 0 ≤ v) (h1 : v ≤ 1000000000) : L (fun k => laws_markJobS.f k l v) = some (v + 4 * l.length, countJ v l) := by
  have := markJobS_l l [] v (by simp; omega) h0 (by omega)
  simpa [laws_markJobS.f] using this
theorem ite_and (b c : Bool) : (if b = true then some c else some false) = some (b && c) := by cases b <;> rfl
theorem ite_not_and (b c : Bool) : (if b = true then some false else some c) = some (!b && c) := by cases b <;> rfl
theorem bind_self {α : Type} (o : Option α) : (o.bind fun t => some t) = o := by cases o <;> rfl
def inB (a lo hi : Int) : Bool := decide (lo ≤ a) && decide (a ≤ hi)
theorem inB_iff {a lo hi : Int} : inB a lo hi = true ↔ lo ≤ a ∧ a ≤ hi := by simp [inB]
theorem within_e (a lo hi : Int) : impl_within.f a lo hi = some (inB a lo hi) := by
  unfold impl_within.f inB
  by_cases h : lo ≤ a <;> simp [h]
theorem l1In_e (a lo hi : Int) : spec_l1In.f a lo hi = some (inB a lo hi) := by
  unfold spec_l1In.f inB
  by_cases h : lo ≤ a <;> simp [h]
theorem l1Has_l (x : Int) (r : List Int) : ∀ pre : List Int, (pre ++ r).length < 4611686018427387904 → L (fun k => spec_l1Has.l0 k (pre ++ r) x (pre.length : Int)) = some (decide (x ∈ r)) := by
  induction r with
  | nil =>
    intro pre hb
    rw [L_shift]
    simp only [spec_l1Has.l0, not_lt_end, if_false, L_const]
    simp
  | cons y r ih =>
    intro pre hb
    rw [L_shift]
    have hl : pre.length < 4611686018427387904 := by simp at hb; omega
    simp only [spec_l1Has.l0, lt_mid, le_nat, if_true, rd_mid, wrap_mid pre y hl, L_ite, L_const]
    rw [app_cons pre y r, ih (pre ++ [y]) (by simpa using hb)]
    by_cases h : y = x
    · subst h
      simp
    · rw [if_neg h]
      have : ¬ x = y := fun e => h e.symm
      simp [this]
theorem l1Has_L (l : List Int) (x : Int) (h : l.length < 4611686018427387904) : L (fun k => spec_l1Has.f k l x) = some (decide (x ∈ l)) := l1Has_l x l [] (by simpa using h)
theorem has_l (x : Int) (r : List Int) : ∀ pre : List Int, (pre ++ r).length < 4611686018427387904 → L (fun k => impl_has.l0 k x (pre ++ r) ((pre ++ r).length : Int) (pre.length : Int)) = some (decide (x ∈ r)) := by
  induction r with
  | nil =>
    intro pre hb
    rw [L_shift]
    simp only [impl_has.l0, not_lt_end, if_false, L_const]
    simp
  | cons y r ih =>
    intro pre hb
    rw [L_shift]
    have hl : pre.length < 4611686018427387904 := by simp at hb; omega
    simp only [impl_has.l0, lt_mid, le_nat, if_true, rd_mid, wrap_mid pre y hl, L_ite, L_const]
    rw [app_cons pre y r, ih (pre ++ [y]) (by simpa using hb)]
    by_cases h : y = x
    · subst h
      simp
    · rw [if_neg h]
      have : ¬ x = y := fun e => h e.symm
      simp [this]
theorem has_L (l : List Int) (x : Int) (h : l.length < 4611686018427387904) : L (fun k => impl_has.f k l x) = some (decide (x ∈ l)) := has_l x l [] (by simpa using h)
theorem perm_of : ∀ (a b : List Int), a.Nodup → (∀ x ∈ a, x ∈ b) → b.length ≤ a.length → a.Perm b
  | [], b, _, _, hl => by
    have : b = [] := List.length_eq_zero_iff.1 (by simpa using hl)
    rw [this]
  | x :: a, b, hn, hs, hl => by
    have hx : x ∈ b := hs x List.mem_cons_self
    have hn' := List.nodup_cons.1 hn
    have hp := List.perm_cons_erase hx
    have h1 : (b.erase x).length ≤ a.length := by
      have := List.length_erase_of_mem hx
      simp at hl
      omega
    have h2 : ∀ y ∈ a, y ∈ b.erase x := fun y hy => (List.mem_erase_of_ne (by rintro rfl; exact hn'.1 hy)).2 (hs y (List.mem_cons_of_mem _ hy))
    exact ((perm_of a (b.erase x) hn'.2 h2 h1).cons x).trans hp.symm
def numsTo (n : Nat) : List Int := (List.range n).map (fun i : Nat => (i : Int))
theorem numsTo_length (n : Nat) : (numsTo n).length = n := by simp [numsTo]
theorem mem_numsTo {n : Nat} {x : Int} : x ∈ numsTo n ↔ 0 ≤ x ∧ x < n := by
  simp only [numsTo, List.mem_map, List.mem_range]
  constructor
  · rintro ⟨i, hi, rfl⟩
    omega
  · intro h
    exact ⟨x.toNat, by omega, by omega⟩
theorem numsTo_nodup (n : Nat) : (numsTo n).Nodup := by
  unfold numsTo
  exact List.Pairwise.map _ (fun a b h => by omega) List.nodup_range
/-- Different numbers of n things, none of them in pre. -/
def diffB (n : Int) : List Int → List Int → Bool
  | _, [] => true
  | pre, x :: r => inB x 0 (n - 1) && (!decide (x ∈ pre) && diffB n (pre ++ [x]) r)
theorem diffB_iff (n : Int) : ∀ (r pre : List Int), diffB n pre r = true ↔ (∀ x ∈ r, 0 ≤ x ∧ x < n) ∧ r.Nodup ∧ ∀ x ∈ r, x ∉ pre
  | [], pre => by simp [diffB]
  | x :: r, pre => by
    rw [diffB, Bool.and_eq_true, Bool.and_eq_true, inB_iff, diffB_iff n r (pre ++ [x])]
    simp only [Bool.not_eq_true', decide_eq_false_iff_not, List.mem_cons, List.nodup_cons, List.mem_append, List.not_mem_nil, or_false, not_or]
    constructor
    · rintro ⟨h1, h2, h3, h4, h5⟩
      refine ⟨?_, ⟨fun hx => (h5 x hx).2 rfl, h4⟩, ?_⟩
      · rintro y (rfl | hy)
        · omega
        · exact h3 y hy
      · rintro y (rfl | hy)
        · exact h2
        · exact (h5 y hy).1
    · rintro ⟨h1, ⟨h2, h3⟩, h4⟩
      exact ⟨⟨(h1 x (.inl rfl)).1, by have := (h1 x (.inl rfl)).2; omega⟩, h4 x (.inl rfl), fun y hy => h1 y (.inr hy), h3, fun y hy => ⟨h4 y (.inr hy), fun e => h2 (e ▸ hy)⟩⟩
/-- An order of n jobs. -/
def orderB (n : Nat) (l : List Int) : Bool := decide ((l.length : Int) = n) && diffB n [] l
def IsOrd (n : Nat) (l : List Int) : Prop := l.length = n ∧ (∀ x ∈ l, 0 ≤ x ∧ x < n) ∧ l.Nodup
theorem orderB_iff {n : Nat} {l : List Int} : orderB n l = true ↔ IsOrd n l := by
  simp only [orderB, Bool.and_eq_true, decide_eq_true_eq, diffB_iff, IsOrd]
  constructor
  · rintro ⟨h, h1, h2, _⟩
    exact ⟨by omega, h1, h2⟩
  · rintro ⟨h, h1, h2⟩
    exact ⟨by omega, h1, h2, by simp⟩
theorem IsOrd.perm {n : Nat} {l : List Int} (h : IsOrd n l) : l.Perm (numsTo n) := perm_of l _ h.2.2 (fun x hx => mem_numsTo.2 (h.2.1 x hx)) (by rw [numsTo_length, h.1]; exact Nat.le_refl _)
theorem IsOrd.of_perm {n : Nat} {l : List Int} (h : l.Perm (numsTo n)) : IsOrd n l := ⟨by rw [h.length_eq, numsTo_length], fun x hx => mem_numsTo.1 (h.mem_iff.1 hx), h.nodup_iff.2 (numsTo_nodup n)⟩
theorem IsOrd.mem {n : Nat} {l : List Int} (h : IsOrd n l) {x : Int} : x ∈ l ↔ 0 ≤ x ∧ x < n := by rw [h.perm.mem_iff, mem_numsTo]
theorem isOrd_all {n : Nat} {l : List Int} (hl : l.length = n) (h : ∀ j : Nat, j < n → (j : Int) ∈ l) : IsOrd n l :=
  IsOrd.of_perm (perm_of _ l (numsTo_nodup n) (fun x hx => by
    obtain ⟨h0, h1⟩ := mem_numsTo.1 hx
    have := h x.toNat (by omega)
    rwa [Int.toNat_of_nonneg h0] at this) (by rw [numsTo_length, hl]; exact Nat.le_refl _)).symm
theorem l2Order_l (n : Nat) (l : List Int) (hn : n ≤ 1048576) (hl : l.length < 4611686018427387904) : ∀ (d i : Nat), i + d = n → L (fun k => spec_l2Order.l0 k (n : Int) l (i : Int)) = some (decide (∀ j : Nat, j < n → i ≤ j → (j : Int) ∈ l))
  | 0, i, hi => by
    rw [L_shift]
    simp only [spec_l2Order.l0, if_neg (show ¬ ((i : Int) < (n : Int)) by omega), L_const]
    congr 1
    symm
    rw [decide_eq_true_eq]
    intro j h1 h2
    omega
  | d + 1, i, hi => by
    rw [L_shift]
    have e : wrap64 ((i : Int) + 1) = ((i + 1 : Nat) : Int) := by
      rw [wrap_id (by omega) (by omega)]
      omega
    simp only [spec_l2Order.l0, if_pos (show ((i : Int) < (n : Int)) by omega), L_bind, l1Has_L l _ hl, Option.bind_some, e, L_ite, L_const]
    rw [l2Order_l n l hn hl d (i + 1) (by omega), ite_and]
    congr 1
    rw [← Bool.decide_and]
    apply decide_eq_decide.2
    constructor
    · rintro ⟨h1, h2⟩ j h4 h3
      rcases Nat.eq_or_lt_of_le h3 with rfl | h5
      · exact h1
      · exact h2 j h4 h5
    · intro h
      exact ⟨h i (by omega) (Nat.le_refl _), fun j h4 h3 => h j h4 (by omega)⟩
theorem l2Order_L (n : Nat) (l : List Int) (hn : n ≤ 1048576) (hl : l.length < 4611686018427387904) : L (fun k => spec_l2Order.f k (n : Int) l) = some (decide (n ≤ 8) && orderB n l) := by
  have hj : ∀ b : Bool, L (fun k => spec_l2Order.j0 k (n : Int) l b) = some (!b && decide (∀ j : Nat, j < n → (j : Int) ∈ l)) := by
    intro b
    rw [L_shift]
    simp only [spec_l2Order.j0, L_ite, L_const]
    rw [show ((0 : Int)) = ((0 : Nat) : Int) from rfl]
    rw [l2Order_l n l hn hl n 0 (by omega), ite_not_and]
    simp
  simp only [spec_l2Order.f, l1In_e, Option.bind_some, L_ite, hj]
  by_cases h8 : n ≤ 8
  · rw [if_pos (by rw [inB_iff]; omega)]
    simp only [h8, decide_true, Bool.true_and]
    congr 1
    by_cases hl2 : l.length = n
    · have e : ((l.length : Int) != (n : Int)) = false := by rw [hl2]; simp
      rw [e]
      simp only [Bool.not_false, Bool.true_and]
      by_cases h : ∀ j : Nat, j < n → (j : Int) ∈ l
      · rw [decide_eq_true h, orderB_iff.2 (isOrd_all hl2 h)]
      · rw [decide_eq_false h]
        symm
        rw [Bool.eq_false_iff]
        intro ho
        exact h (fun j hj => (orderB_iff.1 ho).mem.2 (by omega))
    · have e : ((l.length : Int) != (n : Int)) = true := by simp; omega
      rw [e]
      simp only [Bool.not_true, Bool.false_and]
      symm
      rw [Bool.eq_false_iff]
      intro ho
      exact hl2 (orderB_iff.1 ho).1
  · rw [if_neg (by rw [inB_iff]; omega)]
    simp [h8]
theorem isNumber_e (a n : Int) (h0 : -9223372036854775807 ≤ n) (h1 : n ≤ 9223372036854775807) : impl_isNumber.f a n = some (inB a 0 (n - 1)) := by
  simp only [impl_isNumber.f, within_e, Option.bind_some]
  rw [wrap_id (by omega) (by omega)]
theorem take_mid {α : Type} (pre : List α) (r : List α) : (pre ++ r).take (pre.length : Int).toNat = pre := by simp
theorem areDifferent_l (n : Nat) (hn : n ≤ 1048576) (r : List Int) : ∀ pre : List Int, (pre ++ r).length < 4611686018427387904 → L (fun k => impl_areDifferent.l0 k (n : Int) (pre ++ r) (pre ++ r) ((pre ++ r).length : Int) (pre.length : Int)) = some (diffB n pre r) := by
  induction r with
  | nil =>
    intro pre hb
    rw [L_shift]
    simp only [impl_areDifferent.l0, not_lt_end, if_false, L_const]
    simp [diffB]
  | cons x r ih =>
    intro pre hb
    rw [L_shift]
    have hl : pre.length < 4611686018427387904 := by simp at hb; omega
    have e : ((pre.length : Int) ≤ ((pre ++ x :: r).length : Int)) = True := eq_true (by simp; omega)
    simp only [impl_areDifferent.l0, lt_mid, le_nat, if_true, rd_mid, wrap_mid pre x hl, isNumber_e x (n : Int) (by omega) (by omega), Option.bind_some, e, take_mid, L_ite, L_bind, has_L pre x hl, L_const]
    rw [app_cons pre x r, ih (pre ++ [x]) (by simpa using hb), ite_not_and, ite_and]
    rfl
theorem areDifferent_L (n : Nat) (l : List Int) (hn : n ≤ 1048576) (hl : l.length < 4611686018427387904) : L (fun k => impl_areDifferent.f k (n : Int) l) = some (diffB n [] l) := areDifferent_l n hn l [] (by simpa using hl)
theorem isOrder_L (n : Nat) (l : List Int) (hn : n ≤ 1048576) (hl : l.length < 4611686018427387904) : L (fun k => impl_isOrder.f k (n : Int) l) = some (orderB n l) := by
  simp only [impl_isOrder.f, bind_self, L_ite, areDifferent_L n l hn hl, L_const, orderB]
  by_cases h : (l.length : Int) = n <;> simp [h]
def jobB (j : S89) : Bool := inB j.f0 1 50 && (inB j.f1 0 50 && (inB j.f2 0 500 && inB j.f3 0 500))
def goodB (l : List S89) : Bool := l.all jobB && decide ((l.length : Int) ≤ 8)
structure JobOk (j : S89) : Prop where
  t0 : 1 ≤ j.f0
  t1 : j.f0 ≤ 50
  w0 : 0 ≤ j.f1
  w1 : j.f1 ≤ 50
  r0 : 0 ≤ j.f2
  r1 : j.f2 ≤ 500
  d0 : 0 ≤ j.f3
  d1 : j.f3 ≤ 500
def Good (l : List S89) : Prop := l.length ≤ 8 ∧ ∀ j ∈ l, JobOk j
theorem goodB_iff {l : List S89} : goodB l = true ↔ Good l := by
  simp only [goodB, Good, Bool.and_eq_true, List.all_eq_true, decide_eq_true_eq, jobB, inB_iff]
  constructor
  · rintro ⟨h, hl⟩
    exact ⟨by omega, fun j hj => by
      obtain ⟨⟨a, b⟩, ⟨c, d⟩, ⟨e, f⟩, g, i⟩ := h j hj
      exact ⟨a, b, c, d, e, f, g, i⟩⟩
  · rintro ⟨hl, h⟩
    exact ⟨fun j hj => ⟨⟨(h j hj).t0, (h j hj).t1⟩, ⟨(h j hj).w0, (h j hj).w1⟩, ⟨(h j hj).r0, (h j hj).r1⟩, (h j hj).d0, (h j hj).d1⟩, by omega⟩
theorem l2Job_e (j : S89) : spec_l2Job.f j.f0 j.f1 j.f2 j.f3 = some (jobB j) := by
  simp only [spec_l2Job.f, l1In_e, Option.bind_some, ite_and, jobB]
theorem l2Good_l (r : List S89) : ∀ pre : List S89, (pre ++ r).length < 4611686018427387904 → L (fun k => spec_l2Good.l0 k (pre ++ r) (pre.length : Int)) = some (r.all jobB && decide (((pre ++ r).length : Int) ≤ 8)) := by
  induction r with
  | nil =>
    intro pre hb
    rw [L_shift]
    simp only [spec_l2Good.l0, not_lt_end, if_false, L_const]
    simp
  | cons x r ih =>
    intro pre hb
    rw [L_shift]
    have hl : pre.length < 4611686018427387904 := by simp at hb; omega
    have e : rd_T89 (pre ++ x :: r) (pre.length : Int) = x := getD_mid pre x r _
    simp only [spec_l2Good.l0, lt_mid, le_nat, if_true, e, wrap_mid pre x hl, l2Job_e, Option.bind_some, L_ite, L_const]
    rw [app_cons pre x r, ih (pre ++ [x]) (by simpa using hb), ite_and]
    rw [List.all_cons, Bool.and_assoc]
theorem l2Good_L (l : List S89) (h : l.length < 4611686018427387904) : L (fun k => spec_l2Good.f k l) = some (goodB l) := by
  have := l2Good_l l [] (by simpa using h)
  simpa [goodB, spec_l2Good.f] using this
theorem isDate_e (n : Int) : impl_isDate.f n = some (inB n 0 500) := by
  simp only [impl_isDate.f, within_e, Option.bind_some]
theorem IsJobs_l (r : List S89) : ∀ pre : List S89, (pre ++ r).length < 4611686018427387904 → L (fun k => impl_IsJobs.l0 k (pre ++ r) ((pre ++ r).length : Int) (pre.length : Int)) = some (r.all jobB) := by
  induction r with
  | nil =>
    intro pre hb
    rw [L_shift]
    simp only [impl_IsJobs.l0, not_lt_end, if_false, L_const]
    simp
  | cons x r ih =>
    intro pre hb
    rw [L_shift]
    have hl : pre.length < 4611686018427387904 := by simp at hb; omega
    have e : rd_T89 (pre ++ x :: r) (pre.length : Int) = x := getD_mid pre x r _
    simp only [impl_IsJobs.l0, lt_mid, le_nat, if_true, e, wrap_mid pre x hl, within_e, isDate_e, Option.bind_some, L_ite, L_const]
    rw [app_cons pre x r, ih (pre ++ [x]) (by simpa using hb)]
    simp only [ite_and, List.all_cons, jobB, Bool.and_assoc]
theorem IsJobs_L (l : List S89) (h : l.length < 4611686018427387904) : L (fun k => impl_IsJobs.f k l) = some (goodB l) := by
  have := IsJobs_l l [] (by simpa using h)
  simp only [List.nil_append, List.length_nil, Int.natCast_zero] at this
  simp only [impl_IsJobs.f, L_ite, L_const, this, goodB]
  by_cases h8 : (l.length : Int) ≤ 8
  · rw [if_neg (by omega)]
    simp [h8]
  · rw [if_pos (by omega)]
    simp [h8]
def jobAt (l : List S89) (x : Int) : S89 := l.getD x.toNat z89
theorem jobAt_mem {l : List S89} {x : Int} (h0 : 0 ≤ x) (h1 : x < l.length) : jobAt l x ∈ l := by
  unfold jobAt
  rw [List.getD_eq_getElem?_getD, List.getElem?_eq_getElem (by omega)]
  exact List.getElem_mem _
/-- The ends, put into out by the jobs' numbers. -/
def endsF (l : List S89) : List Int → List Int → Int → List Int
  | [], out, _ => out
  | x :: r, out, now => endsF l r (out.set x.toNat (max now (jobAt l x).f2 + (jobAt l x).f0)) (max now (jobAt l x).f2 + (jobAt l x).f0)
def startsF (l : List S89) : List Int → List Int → Int → List Int
  | [], out, _ => out
  | x :: r, out, now => startsF l r (out.set x.toNat (max now (jobAt l x).f2)) (max now (jobAt l x).f2 + (jobAt l x).f0)
def endsP (l : List S89) (o : List Int) : List Int := endsF l o (List.replicate l.length 0) 0
def startsP (l : List S89) (o : List Int) : List Int := startsF l o (List.replicate l.length 0) 0
theorem mul_bd {w e : Int} (w0 : 0 ≤ w) (w1 : w ≤ 50) (e0 : 0 ≤ e) (e1 : e ≤ 2000) : 0 ≤ w * e ∧ w * e ≤ 100000 := by
  have h1 : w * e ≤ 50 * e := Int.mul_le_mul_of_nonneg_right w1 e0
  have h2 : 0 ≤ w * e := Int.mul_nonneg w0 e0
  omega
def plainB (l : List S89) : Bool := l.all (fun j => decide (j.f2 = 0))
theorem isPlain_l (r : List S89) : ∀ pre : List S89, (pre ++ r).length < 4611686018427387904 → L (fun k => impl_isPlain.l0 k (pre ++ r) ((pre ++ r).length : Int) (pre.length : Int)) = some (plainB r) := by
  induction r with
  | nil =>
    intro pre hb
    rw [L_shift]
    simp only [impl_isPlain.l0, not_lt_end, if_false, L_const]
    rfl
  | cons x r ih =>
    intro pre hb
    rw [L_shift]
    have hl : pre.length < 4611686018427387904 := by simp at hb; omega
    have e : rd_T89 (pre ++ x :: r) (pre.length : Int) = x := getD_mid pre x r _
    simp only [impl_isPlain.l0, lt_mid, le_nat, if_true, e, wrap_mid pre x hl, L_ite, L_const]
    rw [app_cons pre x r, ih (pre ++ [x]) (by simpa using hb)]
    by_cases h : x.f2 = 0 <;> simp [h, plainB]
theorem isPlain_L (l : List S89) (h : l.length < 4611686018427387904) : L (fun k => impl_isPlain.f k l) = some (plainB l) := by
  have := isPlain_l l [] (by simpa using h)
  simpa [impl_isPlain.f] using this
theorem l3Plain_l (r : List S89) : ∀ pre : List S89, (pre ++ r).length < 4611686018427387904 → L (fun k => spec_l3Plain.l0 k (pre ++ r) (pre.length : Int)) = some (plainB r) := by
  induction r with
  | nil =>
    intro pre hb
    rw [L_shift]
    simp only [spec_l3Plain.l0, not_lt_end, if_false, L_const]
    rfl
  | cons x r ih =>
    intro pre hb
    rw [L_shift]
    have hl : pre.length < 4611686018427387904 := by simp at hb; omega
    have e : rd_T89 (pre ++ x :: r) (pre.length : Int) = x := getD_mid pre x r _
    simp only [spec_l3Plain.l0, lt_mid, le_nat, if_true, e, wrap_mid pre x hl, L_ite, L_const]
    rw [app_cons pre x r, ih (pre ++ [x]) (by simpa using hb)]
    by_cases h : x.f2 = 0 <;> simp [h, plainB]
theorem l3Plain_L (l : List S89) (h : l.length < 4611686018427387904) : L (fun k => spec_l3Plain.f k l) = some (plainB l) := by
  have := l3Plain_l l [] (by simpa using h)
  simpa [spec_l3Plain.f] using this
/-- The rule difference of two jobs. -/
def gapJ (obj : Int) (a b : S89) : Int := if obj = 1 then a.f2 - b.f2 else if obj = 2 then a.f0 - b.f0 else if obj = 3 then a.f0 * b.f1 - b.f0 * a.f1 else a.f3 - b.f3
theorem gapJ_neg (obj : Int) (a b : S89) : gapJ obj b a = - gapJ obj a b := by
  unfold gapJ
  repeat' split
  all_goals omega
theorem gap_mul {a b : S89} (ha : JobOk a) (hb : JobOk b) : 0 ≤ a.f0 * b.f1 ∧ a.f0 * b.f1 ≤ 100000 := by
  have h := mul_bd hb.w0 hb.w1 (e := a.f0) (by have := ha.t0; omega) (by have := ha.t1; omega)
  rw [Int.mul_comm] at h
  exact h
/-- The rule difference by the jobs' numbers. -/
def gapI (l : List S89) (obj x y : Int) : Int := gapJ obj (jobAt l x) (jobAt l y)
theorem gapI_neg (l : List S89) (obj x y : Int) : gapI l obj y x = - gapI l obj x y := gapJ_neg obj _ _
theorem difference_e (a b : S89) (obj : Int) (ha : JobOk a) (hb : JobOk b) : impl_difference.f a.f0 a.f1 a.f2 a.f3 b.f0 b.f1 b.f2 b.f3 obj = some (gapJ obj a b) := by
  have m1 := gap_mul ha hb
  have m2 := gap_mul hb ha
  have a1 := ha.t0
  have a2 := ha.t1
  have a3 := ha.r0
  have a4 := ha.r1
  have a5 := ha.d0
  have a6 := ha.d1
  have b1 := hb.t0
  have b2 := hb.t1
  have b3 := hb.r0
  have b4 := hb.r1
  have b5 := hb.d0
  have b6 := hb.d1
  unfold impl_difference.f gapJ
  rw [wrap_id (show -9223372036854775808 ≤ a.f2 - b.f2 by omega) (by omega), wrap_id (show -9223372036854775808 ≤ a.f0 - b.f0 by omega) (by omega), wrap_id (show -9223372036854775808 ≤ a.f0 * b.f1 by omega) (by omega), wrap_id (show -9223372036854775808 ≤ b.f0 * a.f1 by omega) (by omega), wrap_id (show -9223372036854775808 ≤ a.f0 * b.f1 - b.f0 * a.f1 by omega) (by omega), wrap_id (show -9223372036854775808 ≤ a.f3 - b.f3 by omega) (by omega)]
  repeat' split
  all_goals rfl
theorem l3Gap_e (l : List S89) (obj x y : Int) (hg : Good l) (hx : 0 ≤ x ∧ x < (l.length : Int)) (hy : 0 ≤ y ∧ y < (l.length : Int)) : spec_l3Gap.f l obj x y = some (gapI l obj x y) := by
  have ha := hg.2 _ (jobAt_mem hx.1 hx.2)
  have hb := hg.2 _ (jobAt_mem hy.1 hy.2)
  have e1 : rd_T89 l x = jobAt l x := rfl
  have e2 : rd_T89 l y = jobAt l y := rfl
  unfold spec_l3Gap.f gapI gapJ
  rw [if_pos hx.1, if_pos hx.2, if_pos hy.1, if_pos hy.2, e1, e2]
  generalize jobAt l x = a at ha
  generalize jobAt l y = b at hb
  have m1 := gap_mul ha hb
  have m2 := gap_mul hb ha
  have a1 := ha.t0
  have a2 := ha.t1
  have a3 := ha.r0
  have a4 := ha.r1
  have a5 := ha.d0
  have a6 := ha.d1
  have b1 := hb.t0
  have b2 := hb.t1
  have b3 := hb.r0
  have b4 := hb.r1
  have b5 := hb.d0
  have b6 := hb.d1
  rw [wrap_id (show -9223372036854775808 ≤ a.f2 - b.f2 by omega) (by omega), wrap_id (show -9223372036854775808 ≤ a.f0 - b.f0 by omega) (by omega), wrap_id (show -9223372036854775808 ≤ a.f0 * b.f1 by omega) (by omega), wrap_id (show -9223372036854775808 ≤ b.f0 * a.f1 by omega) (by omega), wrap_id (show -9223372036854775808 ≤ a.f0 * b.f1 - b.f0 * a.f1 by omega) (by omega), wrap_id (show -9223372036854775808 ≤ a.f3 - b.f3 by omega) (by omega)]
  repeat' split
  all_goals rfl
/-- Jobs, a ruled objective. -/
def ruledB (l : List S89) (obj : Int) : Bool := goodB l && (inB obj 1 4 && (decide (obj = 1) || plainB l))
theorem ruledB_good {l : List S89} {obj : Int} (h : ruledB l obj = true) : Good l := by
  rw [ruledB, Bool.and_eq_true] at h
  exact goodB_iff.1 h.1
theorem isRuled_L (l : List S89) (obj : Int) (h : l.length ≤ 1048576) : L (fun k => impl_isRuled.f k l obj) = some (ruledB l obj) := by
  simp only [impl_isRuled.f, bind_self, L_bind, L_ite, L_const, IsJobs_L l (by omega), isPlain_L l (by omega), within_e, Option.bind_some, ruledB]
  cases goodB l
  · rfl
  · by_cases h1 : obj = 1
    · subst h1
      rfl
    · rw [if_pos rfl, if_neg h1, ite_and]
      have : inB obj 1 4 = inB obj 2 4 := by
        unfold inB
        have : decide (1 ≤ obj) = decide (2 ≤ obj) := decide_eq_decide.2 (by omega)
        rw [this]
      simp [h1, this]
theorem isRuledAndOrdered_L (l : List S89) (o : List Int) (obj : Int) (h : l.length ≤ 1048576) (ho : o.length ≤ 1048576) : L (fun k => impl_isRuledAndOrdered.f k l o obj) = some (ruledB l obj && orderB l.length o) := by
  simp only [impl_isRuledAndOrdered.f, bind_self, L_bind, L_ite, L_const, isRuled_L l obj h, Option.bind_some, isOrder_L l.length o h (by omega), ite_and]
theorem l3Ruled_L (l : List S89) (obj : Int) (h : l.length ≤ 1048576) : L (fun k => spec_l3Ruled.f k l obj) = some (ruledB l obj) := by
  simp only [spec_l3Ruled.f, bind_self, L_bind, L_ite, L_const, l2Good_L l (by omega), l3Plain_L l (by omega), l1In_e, Option.bind_some, ruledB]
  cases goodB l
  · rfl
  · cases inB obj 1 4
    · rfl
    · by_cases h1 : obj = 1 <;> simp [h1]
theorem l3Both_L (l : List S89) (o : List Int) (obj : Int) (h : l.length ≤ 1048576) (ho : o.length ≤ 1048576) : L (fun k => spec_l3Both.f k l o obj) = some (ruledB l obj && orderB l.length o) := by
  simp only [spec_l3Both.f, bind_self, L_bind, L_ite, L_const, l3Ruled_L l obj h, Option.bind_some, l2Order_L l.length o h (by omega), ite_and]
  cases hr : ruledB l obj with
  | false => rfl
  | true => simp [(ruledB_good hr).1]
def wrongB (l : List S89) (obj x y : Int) : Bool := decide (gapI l obj x y > 0)
/-- The inversions of a list by a test. -/
def invL (w : Int → Int → Bool) : List Int → List S71
  | [] => []
  | x :: r => (r.filter (w x)).map (fun y => (⟨x, y⟩ : S71)) ++ invL w r
theorem invL_len (w : Int → Int → Bool) : ∀ o : List Int, (invL w o).length ≤ o.length * o.length
  | [] => by simp [invL]
  | x :: r => by
    have h1 : (r.filter (w x)).length ≤ r.length := List.length_filter_le _ _
    have h2 := invL_len w r
    have h3 : (x :: r).length * (x :: r).length = r.length * r.length + 2 * r.length + 1 := by
      simp only [List.length_cons, Nat.add_mul, Nat.mul_add, Nat.mul_one, Nat.one_mul]
      omega
    rw [h3, invL, List.length_append, List.length_map]
    omega
theorem l3Inv_in (l : List S89) (obj : Int) (hg : Good l) (x : Int) (p : List Int) (q : List Int) (hx : 0 ≤ x ∧ x < (l.length : Int)) (r : List Int) (hr : ∀ y ∈ r, 0 ≤ y ∧ y < (l.length : Int)) : ∀ (pre : List Int) (out : List S71) , (p ++ x :: (pre ++ r)).length < 1000000 → out.length + r.length < 1000000 →
    L (fun k => spec_l3Inversions.l1 k l (p ++ x :: (pre ++ r)) obj out (p.length : Int) (((p ++ x :: pre).length : Nat) : Int)) = L (fun k => spec_l3Inversions.l0 k l (p ++ x :: (pre ++ r)) obj (out ++ (r.filter (wrongB l obj x)).map (fun y => (⟨x, y⟩ : S71))) (((p ++ [x]).length : Nat) : Int)) := by
  induction r with
  | nil =>
    intro pre out hb ho
    rw [L_shift]
    have hl : p.length < 4611686018427387904 := by simp at hb; omega
    simp only [spec_l3Inversions.l1, List.append_nil, if_neg (show ¬ ((((p ++ x :: pre).length : Nat) : Int) < (((p ++ x :: pre).length : Nat) : Int)) by omega), wrap_mid p x hl, List.filter_nil, List.map_nil]
  | cons y r ih =>
    intro pre out hb ho
    rw [L_shift]
    have hy := hr y List.mem_cons_self
    have hl : (p ++ x :: pre).length < 4611686018427387904 := by simp at hb ⊢; omega
    have e0 : p ++ x :: (pre ++ y :: r) = (p ++ x :: pre) ++ y :: r := by simp
    have e1 : rd (p ++ x :: (pre ++ y :: r)) (p.length : Int) = x := rd_mid p x _
    have e2 : rd (p ++ x :: (pre ++ y :: r)) (((p ++ x :: pre).length : Nat) : Int) = y := by rw [e0]; exact rd_mid _ y r
    have c1 : ((((p ++ x :: pre).length : Nat) : Int) < (((p ++ x :: (pre ++ y :: r)).length : Nat) : Int)) = True := by rw [e0]; exact lt_mid _ y r
    have c2 : ((p.length : Int) < (((p ++ x :: (pre ++ y :: r)).length : Nat) : Int)) = True := lt_mid p x _
    simp only [List.length_cons] at ho
    simp only [spec_l3Inversions.l1, e1, e2, c1, c2, le_nat, if_true, l3Gap_e l obj x y hg hx hy, Option.bind_some, if_pos (show out.length < 8796093022208 by omega), wrap_mid (p ++ x :: pre) y hl, L_ite]
    have e3 : (((p ++ x :: pre) ++ [y]).length : Nat) = ((p ++ x :: (pre ++ [y])).length : Nat) := by simp
    have e4 : p ++ x :: (pre ++ y :: r) = p ++ x :: ((pre ++ [y]) ++ r) := by simp
    rw [e3, e4]
    by_cases hw : gapI l obj x y > 0
    · have hwb : wrongB l obj x y = true := decide_eq_true hw
      rw [if_pos hw, ih (fun z hz => hr z (List.mem_cons_of_mem _ hz)) (pre ++ [y]) _ (by simpa using hb) (by simp; omega), List.filter_cons, if_pos hwb, List.map_cons]
      simp only [List.append_assoc, List.cons_append, List.nil_append]
    · have hwb : wrongB l obj x y = false := decide_eq_false hw
      rw [if_neg hw, ih (fun z hz => hr z (List.mem_cons_of_mem _ hz)) (pre ++ [y]) _ (by simpa using hb) (by omega), List.filter_cons, if_neg (by rw [hwb]; decide)]
theorem l3Inv_l (l : List S89) (obj : Int) (hg : Good l) : ∀ (r p : List Int) (out : List S71), (∀ y ∈ r, 0 ≤ y ∧ y < (l.length : Int)) → (p ++ r).length ≤ 8 → out.length + r.length * r.length ≤ 1000 →
    L (fun k => spec_l3Inversions.l0 k l (p ++ r) obj out (p.length : Int)) = some (out ++ invL (wrongB l obj) r)
  | [], p, out, hr, hb, ho => by
    rw [L_shift]
    simp only [spec_l3Inversions.l0, not_lt_end, if_false, L_const]
    simp only [invL, List.append_nil]
  | x :: r, p, out, hr, hb, ho => by
    rw [L_shift]
    have hl : p.length < 4611686018427387904 := by simp at hb; omega
    have h3 : (x :: r).length * (x :: r).length = r.length * r.length + 2 * r.length + 1 := by
      simp only [List.length_cons, Nat.add_mul, Nat.mul_add, Nat.mul_one, Nat.one_mul]
      omega
    rw [h3] at ho
    simp only [spec_l3Inversions.l0, lt_mid, if_true, wrap_mid p x hl]
    have h := l3Inv_in l obj hg x p [] (hr x List.mem_cons_self) r (fun y hy => hr y (List.mem_cons_of_mem _ hy)) [] out (by simp at hb ⊢; omega) (by omega)
    simp only [List.nil_append] at h
    rw [h, app_cons p x r, l3Inv_l l obj hg r (p ++ [x]) _ (fun y hy => hr y (List.mem_cons_of_mem _ hy)) (by simpa using hb) (by
      have : (r.filter (wrongB l obj x)).length ≤ r.length := List.length_filter_le _ _
      simp only [List.length_append, List.length_map]
      omega), invL, List.append_assoc]
theorem l3Inversions_L (l : List S89) (obj : Int) (o : List Int) (hg : Good l) (h8 : l.length ≤ 8) (hi : IsOrd l.length o) : L (fun k => spec_l3Inversions.f k l o obj) = some (invL (wrongB l obj) o) := by
  have hl := hi.1
  have hn2 : o.length * o.length ≤ 64 := (Nat.mul_le_mul (by omega) (by omega) : o.length * o.length ≤ 8 * 8)
  have := l3Inv_l l obj hg o [] [] hi.2.1 (by simp; omega) (by simp; omega)
  simpa [spec_l3Inversions.f] using this
theorem inv_in (l : List S89) (obj : Int) (hg : Good l) (x : Int) (hx : 0 ≤ x ∧ x < (l.length : Int)) (O O2 : List Int) (n i : Int) (r : List Int) (hr : ∀ y ∈ r, 0 ≤ y ∧ y < (l.length : Int)) : ∀ (pre : List Int) (out : List S71) , (pre ++ r).length < 1000000 → out.length + r.length < 1000000 →
    L (fun k => impl_inversions.l1 k l O obj out x O2 n i (pre ++ r) ((pre ++ r).length : Int) (pre.length : Int)) = L (fun k => impl_inversions.l0 k l O obj (out ++ (r.filter (wrongB l obj x)).map (fun y => (⟨x, y⟩ : S71))) O2 n (wrap64 (i + 1))) := by
  induction r with
  | nil =>
    intro pre out hb ho
    rw [L_shift]
    simp only [impl_inversions.l1, not_lt_end, if_false]
    simp only [List.filter_nil, List.map_nil, List.append_nil]
  | cons y r ih =>
    intro pre out hb ho
    rw [L_shift]
    have hy := hr y List.mem_cons_self
    have hl : pre.length < 4611686018427387904 := by simp at hb; omega
    have hjx := hg.2 _ (jobAt_mem hx.1 hx.2)
    have hjy := hg.2 _ (jobAt_mem hy.1 hy.2)
    have e1 : rd_T89 l x = jobAt l x := rfl
    have e2 : rd_T89 l y = jobAt l y := rfl
    have e3 : gapJ obj (jobAt l y) (jobAt l x) = - gapI l obj x y := gapI_neg l obj x y
    simp only [List.length_cons] at ho
    simp only [impl_inversions.l1, lt_mid, le_nat, if_true, rd_mid, wrap_mid pre y hl, if_pos hx.1, if_pos hx.2, if_pos hy.1, if_pos hy.2, e1, e2, difference_e _ _ obj hjy hjx, e3, Option.bind_some, if_pos (show out.length < 8796093022208 by omega), L_ite]
    rw [app_cons pre y r]
    by_cases hw : gapI l obj x y > 0
    · have hwb : wrongB l obj x y = true := decide_eq_true hw
      rw [if_pos (by omega), ih (fun z hz => hr z (List.mem_cons_of_mem _ hz)) (pre ++ [y]) _ (by simpa using hb) (by simp; omega), List.filter_cons, if_pos hwb, List.map_cons]
      simp only [List.append_assoc, List.cons_append, List.nil_append]
    · have hwb : wrongB l obj x y = false := decide_eq_false hw
      rw [if_neg (by omega), ih (fun z hz => hr z (List.mem_cons_of_mem _ hz)) (pre ++ [y]) _ (by simpa using hb) (by omega), List.filter_cons, if_neg (by rw [hwb]; decide)]
theorem inv_l (l : List S89) (obj : Int) (hg : Good l) : ∀ (r p : List Int) (out : List S71), (∀ y ∈ r, 0 ≤ y ∧ y < (l.length : Int)) → (p ++ r).length ≤ 8 → out.length + r.length * r.length ≤ 1000 →
    L (fun k => impl_inversions.l0 k l (p ++ r) obj out (p ++ r) ((p ++ r).length : Int) (p.length : Int)) = some (out ++ invL (wrongB l obj) r)
  | [], p, out, hr, hb, ho => by
    rw [L_shift]
    simp only [impl_inversions.l0, not_lt_end, if_false, L_const]
    simp only [invL, List.append_nil]
  | x :: r, p, out, hr, hb, ho => by
    rw [L_shift]
    have hl : p.length < 4611686018427387904 := by simp at hb; omega
    have h3 : (x :: r).length * (x :: r).length = r.length * r.length + 2 * r.length + 1 := by
      simp only [List.length_cons, Nat.add_mul, Nat.mul_add, Nat.mul_one, Nat.one_mul]
      omega
    rw [h3] at ho
    have e5 : (((p ++ [x]).length : Int) ≤ ((p ++ x :: r).length : Int)) = True := eq_true (by simp; omega)
    have e6 : (p ++ x :: r).drop ((p ++ [x]).length : Int).toNat = r := by
      rw [Int.toNat_natCast, app_cons p x r, List.drop_left]
    simp only [impl_inversions.l0, lt_mid, le_nat, if_true, rd_mid, wrap_mid p x hl, e5, e6]
    have h := inv_in l obj hg x (hr x List.mem_cons_self) (p ++ x :: r) (p ++ x :: r) ((p ++ x :: r).length : Int) (p.length : Int) r (fun y hy => hr y (List.mem_cons_of_mem _ hy)) [] out (by simp at hb ⊢; omega) (by omega)
    simp only [List.nil_append, List.length_nil, Int.natCast_zero] at h
    rw [h, wrap_mid p x hl, app_cons p x r, inv_l l obj hg r (p ++ [x]) _ (fun y hy => hr y (List.mem_cons_of_mem _ hy)) (by simpa using hb) (by
      have : (r.filter (wrongB l obj x)).length ≤ r.length := List.length_filter_le _ _
      simp only [List.length_append, List.length_map]
      omega), invL, List.append_assoc]
theorem inversions_L (l : List S89) (obj : Int) (o : List Int) (hg : Good l) (h8 : l.length ≤ 8) (hi : IsOrd l.length o) : L (fun k => impl_inversions.f k l o obj) = some (invL (wrongB l obj) o) := by
  have hl := hi.1
  have hn2 : o.length * o.length ≤ 64 := (Nat.mul_le_mul (by omega) (by omega) : o.length * o.length ≤ 8 * 8)
  have := inv_l l obj hg o [] [] hi.2.1 (by simp; omega) (by simp; omega)
  simpa [impl_inversions.f] using this
theorem eqIntA2S_l (r : List S71) : ∀ pre : List S71, (pre ++ r).length < 4611686018427387904 → L (fun k => laws_eqIntA2S.l0 k (pre ++ r) (pre ++ r) (pre.length : Int)) = some true := by
  induction r with
  | nil =>
    intro pre hb
    rw [L_shift]
    simp only [laws_eqIntA2S.l0, not_lt_end, if_false, L_const]
  | cons x r ih =>
    intro pre hb
    rw [L_shift]
    have hl : pre.length < 4611686018427387904 := by simp at hb; omega
    simp only [laws_eqIntA2S.l0, laws_eqIntA2.f, lt_mid, le_nat, if_true, wrap_mid pre x hl, Option.bind_some]
    rw [app_cons pre x r]
    exact ih (pre ++ [x]) (by simpa using hb)
theorem eqIntA2S_L (l : List S71) (h : l.length ≤ 1048576) : L (fun k => laws_eqIntA2S.f k l l) = some true := by
  simp only [laws_eqIntA2S.f, if_true]
  exact eqIntA2S_l l [] (by simp; omega)
/-- Pairs of the numbers from v on, as many as a list has. -/
def countPr {α : Type} : Int → List α → List S71
  | _, [] => []
  | v, _ :: r => ⟨v, v + 1⟩ :: countPr (v + 1 + 1) r
theorem markIntA2S_l (r : List S71) : ∀ (pre : List S71) (v : Int), (pre ++ r).length < 4611686018427387904 → 0 ≤ v → v + 2 * r.length < 9223372036854775807 → L (fun k => laws_markIntA2S.l0 k (pre ++ r) v (pre.length : Int)) = some (v + 2 * r.length, pre ++ countPr v r) := by
  induction r with
  | nil =>
    intro pre v hb h0 h1
    rw [L_shift]
    simp only [laws_markIntA2S.l0, not_lt_end, if_false, L_const]
    simp [countPr]
  | cons x r ih =>
    intro pre v hb h0 h1
    rw [L_shift]
    have hl : pre.length < 4611686018427387904 := by simp at hb; omega
    simp only [List.length_cons] at h1
    simp only [laws_markIntA2S.l0, lt_mid, le_nat, if_true, set_mid pre x _ r pre rfl, wrap_mid pre x hl, wrap_id (show -9223372036854775808 ≤ v + 1 by omega) (show v + 1 ≤ 9223372036854775807 by omega), wrap_id (show -9223372036854775808 ≤ v + 1 + 1 by omega) (show v + 1 + 1 ≤ 9223372036854775807 by omega)]
    rw [app_cons pre (⟨v, v + 1⟩ : S71) r, show (pre ++ [x]).length = (pre ++ [(⟨v, v + 1⟩ : S71)]).length by simp, ih (pre ++ [(⟨v, v + 1⟩ : S71)]) (v + 1 + 1) (by simpa using hb) (by omega) (by omega)]
    simp only [countPr, List.append_assoc, List.cons_append, List.nil_append, List.length_cons, Option.some.injEq, Prod.mk.injEq, and_true]
    omega
theorem markIntA2S_L (l : List S71) (v : Int) (h : l.length ≤ 1048576) (h0 : 0 ≤ v) (h1 : v ≤ 1000000000) : L (fun k => laws_markIntA2S.f k l v) = some (v + 2 * l.length, countPr v l) := by
  have := markIntA2S_l l [] v (by simp; omega) h0 (by omega)
  simpa [laws_markIntA2S.f] using this
theorem heldIntA2S_l (r : List S71) : ∀ (pre : List S71) (v : Int), (pre.length + r.length) < 4611686018427387904 → 0 ≤ v → v + 2 * r.length < 9223372036854775807 → L (fun k => laws_heldIntA2S.l0 k (pre ++ countPr v r) v (pre.length : Int)) = some (v + 2 * r.length) := by
  induction r with
  | nil =>
    intro pre v hb h0 h1
    rw [L_shift]
    simp only [laws_heldIntA2S.l0, countPr, not_lt_end, if_false, L_const]
    simp
  | cons x r ih =>
    intro pre v hb h0 h1
    rw [L_shift]
    simp only [List.length_cons] at h1 hb
    have hl : pre.length < 4611686018427387904 := by omega
    have e : rd_T71 (pre ++ countPr v (x :: r)) (pre.length : Int) = ⟨v, v + 1⟩ := getD_mid pre _ _ _
    simp only [laws_heldIntA2S.l0, e]
    simp only [countPr, lt_mid, le_nat, if_true, wrap_mid pre x hl, wrap_id (show -9223372036854775808 ≤ v + 1 by omega) (show v + 1 ≤ 9223372036854775807 by omega), wrap_id (show -9223372036854775808 ≤ v + 1 + 1 by omega) (show v + 1 + 1 ≤ 9223372036854775807 by omega)]
    have := ih (pre ++ [⟨v, v + 1⟩]) (v + 1 + 1) (by simp; omega) (by omega) (by omega)
    simp only [List.append_assoc, List.cons_append, List.nil_append, List.length_append, List.length_cons, List.length_nil] at this ⊢
    rw [this]
    simp only [Option.some.injEq]
    omega
theorem heldIntA2S_L (l : List S71) (v : Int) (h : l.length ≤ 1048576) (h0 : 0 ≤ v) (h1 : v ≤ 1000000000) : L (fun k => laws_heldIntA2S.f k (countPr v l) v) = some (v + 2 * l.length) := by
  have := heldIntA2S_l l [] v (by simp; omega) h0 (by omega)
  simpa [laws_heldIntA2S.f] using this

theorem InversionsOf_both (l : List S89) (o : List Int) (obj : Int) (h : l.length ≤ 1048576) (ho : o.length ≤ 1048576) :
    ∃ (R : List S71) (ok : Bool), L (fun k => spec_InversionsOf.f k l o obj) = some (R, ok) ∧ L (fun k => impl_InversionsOf.f k l o obj) = some (R, ok) ∧ R.length ≤ 1048576 := by
  simp only [spec_InversionsOf.f, impl_InversionsOf.f, L_bind, L_ite, L_const, l3Both_L l o obj h ho, isRuledAndOrdered_L l o obj h ho, Option.bind_some]
  cases hr : ruledB l obj with
  | false => exact ⟨[], false, by simp, by simp, by simp⟩
  | true =>
    cases hord : orderB l.length o with
    | false => exact ⟨[], false, by simp, by simp, by simp⟩
    | true =>
      have hg := ruledB_good hr
      have hi := orderB_iff.1 hord
      have h8 := hg.1
      have hl := hi.1
      have hn := invL_len (wrongB l obj) o
      have hn2 : o.length * o.length ≤ 64 := (Nat.mul_le_mul (by omega) (by omega) : o.length * o.length ≤ 8 * 8)
      refine ⟨invL (wrongB l obj) o, true, ?_, ?_, by omega⟩
      · simp only [Bool.and_self, if_true, l3Inversions_L l obj o hg h8 hi, Option.bind_some]
      · simp only [Bool.and_self, if_true, inversions_L l obj o hg h8 hi, Option.bind_some]
theorem laws_FnExactInversionsOf_j0f (x0 : List (S96)) (x1 : List Int) (x2 : Int) (x8 : List (S71)) (x9 : Bool) (x10 : List (S89)) (x11 : List Int) (x12 : List (S71)) (x13 : Bool) : L (fun k => laws_FnExactInversionsOf.j0 k x0 x1 x2 x8 x9 x10 x11 x12 x13 false) = L (fun k => (laws_toJobS.f k x0).bind fun t1024 => ((laws_eqJobS.f k x10 t1024).bind fun t1027 => (if t1027 = true then ((laws_toIntS.f k x1).bind fun t1028 => ((laws_eqIntS.f k x11 t1028).bind fun t1031 => (if t1031 = true then ((laws_markJobS.f k x10 1).bind fun bt1032 => ((laws_markIntS.f k x11 bt1032.1).bind fun bt1034 => (if bt1034.1 < 0 then (laws_FnExactInversionsOf.j1 k x0 x1 x2 x8 x9 x12 true) else ((laws_eqIntA2S.f k x12 x8).bind fun t1036 => (if t1036 = true then (laws_FnExactInversionsOf.j1 k x0 x1 x2 x8 x9 x12 (x13 != x9)) else (laws_FnExactInversionsOf.j1 k x0 x1 x2 x8 x9 x12 true)))))) else (some false)))) else (some false)))) := by
  rw [L_shift]
  simp only [laws_FnExactInversionsOf.j0, Bool.false_eq_true, if_false]
theorem laws_FnExactInversionsOf_j1f (x0 : List (S96)) (x1 : List Int) (x2 : Int) (x8 : List (S71)) (x9 : Bool) (x12 : List (S71)) : L (fun k => laws_FnExactInversionsOf.j1 k x0 x1 x2 x8 x9 x12 false) = L (fun k => (laws_markIntA2S.f k x12 1).bind fun bt1037 => ((laws_heldIntA2S.f k bt1037.2 1).bind fun t1039 => (if t1039 < 0 then (some false) else (if t1039 = bt1037.1 then ((laws_toJobS.f k x0).bind fun t1040 => ((laws_toIntS.f k x1).bind fun t1043 => ((impl_InversionsOf.f k t1040 t1043 x2).bind fun bt1046 => ((laws_eqIntA2S.f k bt1046.1 x8).bind fun t1050 => (if t1050 = true then (laws_FnExactInversionsOf.j2 k bt1037.2 bt1037.1 (bt1046.2 != x9)) else (laws_FnExactInversionsOf.j2 k bt1037.2 bt1037.1 true)))))) else (some false))))) := by
  rw [L_shift]
  simp only [laws_FnExactInversionsOf.j1, Bool.false_eq_true, if_false]
theorem laws_FnExactInversionsOf_j2f (x12 : List (S71)) (x15 : Int) : L (fun k => laws_FnExactInversionsOf.j2 k x12 x15 false) = L (fun k => (laws_heldIntA2S.f k x12 1).bind fun t1051 => (if t1051 < 0 then (some false) else (if t1051 = x15 then (some true) else (some false)))) := by
  rw [L_shift]
  simp only [laws_FnExactInversionsOf.j2, Bool.false_eq_true, if_false]
theorem FnExactInversionsOf : laws_FnExactInversionsOf.Pure := by
  intro l o obj h1 _ h2 _ _
  have e1 : maxLen = 9223372036854775807 := rfl
  refine rounds_of_L ?_
  simp only [laws_FnExactInversionsOf.f, L_ite, L_const, szJobS_e l (by omega)]
  by_cases ho : o.length ≤ 1048576
  · rw [if_neg (by omega)]
    by_cases hl : l.length ≤ 1048576
    · have hl2 : (l.map toJobP).length ≤ 1048576 := by simpa using hl
      obtain ⟨R, ok, hs, hi, hR⟩ := InversionsOf_both (l.map toJobP) o obj hl2 ho
      rw [if_pos hl]
      simp (disch := omega) only [lt0, Option.bind_some, L_bind, L_ite, L_const, toJobS_L l hl, toIntS_L o ho, hs, hi, eqJobS_L _ hl2, eqIntS_L o ho, markJobS_L, markIntS_L, markIntA2S_L R, heldIntA2S_L R, eqIntA2S_L R hR, laws_FnExactInversionsOf_j0f, laws_FnExactInversionsOf_j1f, laws_FnExactInversionsOf_j2f, if_true, Bool.false_eq_true, if_false, bne_self_eq_false]
    · rw [if_neg hl]
      simp only [Option.bind_some, if_pos (show (-1 : Int) < 0 by decide), L_const]
  · rw [if_pos (by omega)]

end Go.Proofs.Ytgpnophjbibhhaa.Pure
