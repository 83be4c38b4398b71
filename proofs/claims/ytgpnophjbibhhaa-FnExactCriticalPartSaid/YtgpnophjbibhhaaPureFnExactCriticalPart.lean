/- The program's CriticalPart answers what the reference's answers, for all lists of jobs. -/
import Derived.Test.YtgpnophjbibhhaaXSFnExactCriticalPart
import Derived.Test.YtgpnophjbibhhaaXLim
namespace Go.Proofs.Ytgpnophjbibhhaa.Pure
open Go.RowKit Go.Proofs.YtgpnophjbibhhaaW.PrintWords Go.Proofs.YtgpnophjbibhhaaW.PrintLast Go.Proofs.YtgpnophjbibhhaaW.PrintMore Go.Proofs.Ytgpnophjbibhhaa.X Go.Proofs.Ytgpnophjbibhhaa.XRow Go.Proofs.Ytgpnophjbibhhaa.XLim
set_option linter.unusedVariables false
set_option linter.unusedSimpArgs false
instance : ∀ a0, Mono (fun k => impl_CriticalPart.f k a0) := fun a0 => ⟨⟨impl_CriticalPart.mono a0⟩⟩
instance : ∀ a0, Mono (fun k => impl_IsJobs.f k a0) := fun a0 => ⟨⟨impl_IsJobs.mono a0⟩⟩
instance : ∀ a0, Mono (fun k => impl_criticalPart.f k a0) := fun a0 => ⟨⟨impl_criticalPart.mono a0⟩⟩
instance : ∀ a0 a1, Mono (fun k => impl_endsOf.f k a0 a1) := fun a0 a1 => ⟨⟨impl_endsOf.mono a0 a1⟩⟩
instance : ∀ a0, Mono (fun k => impl_greedyOrder.f k a0) := fun a0 => ⟨⟨impl_greedyOrder.mono a0⟩⟩
instance : ∀ a0 a1, Mono (fun k => impl_has.f k a0 a1) := fun a0 a1 => ⟨⟨impl_has.mono a0 a1⟩⟩
instance : ∀ a0 a1, Mono (fun k => impl_others.f k a0 a1) := fun a0 a1 => ⟨⟨impl_others.mono a0 a1⟩⟩
instance : ∀ l0, Mono (fun k => laws_FnExactCriticalPart.f k l0) := fun l0 => ⟨⟨laws_FnExactCriticalPart.mono l0⟩⟩
instance : ∀ a0 a1, Mono (fun k => laws_eqIntS.f k a0 a1) := fun a0 a1 => ⟨⟨laws_eqIntS.mono a0 a1⟩⟩
instance : ∀ a0 a1, Mono (fun k => laws_eqJobS.f k a0 a1) := fun a0 a1 => ⟨⟨laws_eqJobS.mono a0 a1⟩⟩
instance : ∀ a0 a1, Mono (fun k => laws_heldIntS.f k a0 a1) := fun a0 a1 => ⟨⟨laws_heldIntS.mono a0 a1⟩⟩
instance : ∀ a0 a1, Mono (fun k => laws_markIntS.f k a0 a1) := fun a0 a1 => ⟨⟨laws_markIntS.mono a0 a1⟩⟩
instance : ∀ a0 a1, Mono (fun k => laws_markJobS.f k a0 a1) := fun a0 a1 => ⟨⟨laws_markJobS.mono a0 a1⟩⟩
instance : ∀ a0, Mono (fun k => laws_toJobS.f k a0) := fun a0 => ⟨⟨laws_toJobS.mono a0⟩⟩
instance : ∀ a0, Mono (fun k => spec_CriticalPart.f k a0) := fun a0 => ⟨⟨spec_CriticalPart.mono a0⟩⟩
instance : ∀ a0 a1, Mono (fun k => spec_l1Has.f k a0 a1) := fun a0 a1 => ⟨⟨spec_l1Has.mono a0 a1⟩⟩
instance : ∀ a0 a1, Mono (fun k => spec_l2Ends.f k a0 a1) := fun a0 a1 => ⟨⟨spec_l2Ends.mono a0 a1⟩⟩
instance : ∀ a0, Mono (fun k => spec_l2Good.f k a0) := fun a0 => ⟨⟨spec_l2Good.mono a0⟩⟩
instance : ∀ a0 a1, Mono (fun k => spec_l2Starts.f k a0 a1) := fun a0 a1 => ⟨⟨spec_l2Starts.mono a0 a1⟩⟩
instance : ∀ a0, Mono (fun k => spec_l5Greedy.f k a0) := fun a0 => ⟨⟨spec_l5Greedy.mono a0⟩⟩
instance : ∀ a0 a1 a2, Mono (fun k => spec_l5Next.f k a0 a1 a2) := fun a0 a1 a2 => ⟨⟨spec_l5Next.mono a0 a1 a2⟩⟩
instance : ∀ a0, Mono (fun k => spec_l5Part.f k a0) := fun a0 => ⟨⟨spec_l5Part.mono a0⟩⟩
theorem lt_mid {α : Type} (pre : List α) (x : α) (r : List α) : ((pre.length : Int) < ((pre ++ x :: r).length : Int)) = True := by
  simp only [List.length_append, List.length_cons]
  exact eq_true (by omega)
theorem not_lt_end {α : Type} (pre : List α) : ((pre.length : Int) < ((pre ++ []).length : Int)) = False := by
  simp
theorem le_nat (n : Nat) : (0 ≤ (n : Int)) = True := eq_true (by omega)
theorem getD_mid {α : Type} (pre : List α) (x : α) (r : List α) (d : α) : (pre ++ x :: r).getD (pre.length : Int).toNat d = x := by
  simp [List.getD_eq_getElem?_getD]
theorem rd_mid (pre : List Int) (x : Int) (r : List Int) : rd (pre ++ x :: r) (pre.length : Int) = x := getD_mid pre x r 0
theorem wrap_mid {α : Type} (pre : List α) (x : α) (h : pre.length < 4611686018427387904) : wrap64 ((pre.length : Int) + 1) = ((pre ++ [x]).length : Int) := by
  rw [wrap_id (by omega) (by omega)]
  simp
theorem set_mid {α β : Type} (a : List α) (y v : α) (b : List α) (pre : List β) (h : pre.length = a.length) : (a ++ y :: b).set (pre.length : Int).toNat v = a ++ v :: b := by
  rw [Int.toNat_natCast, h, List.set_append_right _ _ (Nat.le_refl _)]
  simp
theorem rep_succ {α : Type} (x : α) (r : List α) {β : Type} (z : β) : List.replicate (x :: r).length z = z :: List.replicate r.length z := rfl
theorem app_cons {α : Type} (pre : List α) (x : α) (r : List α) : pre ++ x :: r = (pre ++ [x]) ++ r := by simp
theorem getD_set (out : List Int) (i j : Nat) (v : Int) : (out.set i v).getD j 0 = if i = j ∧ j < out.length then v else out.getD j 0 := by
  simp only [List.getD_eq_getElem?_getD, List.getElem?_set]
  by_cases h : i = j
  · subst h
    by_cases h2 : i < out.length
    · simp [h2]
    · simp [h2]
  · simp [h]
theorem ext_getD {a b : List Int} (hl : a.length = b.length) (h : ∀ j : Nat, j < a.length → a.getD j 0 = b.getD j 0) : a = b := by
  apply List.ext_getElem hl
  intro j h1 h2
  have := h j h1
  rwa [List.getD_eq_getElem?_getD, List.getD_eq_getElem?_getD, List.getElem?_eq_getElem h1, List.getElem?_eq_getElem h2] at this
theorem getD_mem {l : List Int} {j : Nat} (hj : j < l.length) : l.getD j 0 ∈ l := by
  rw [List.getD_eq_getElem?_getD, List.getElem?_eq_getElem hj]
  exact List.getElem_mem _
theorem eqIntS_l (r : List Int) : ∀ pre : List Int, (pre ++ r).length < 4611686018427387904 → L (fun k => laws_eqIntS.l0 k (pre ++ r) (pre ++ r) (pre.length : Int)) = some true := by
  induction r with
  | nil =>
    intro pre hb
    rw [L_shift]
    simp only [laws_eqIntS.l0, not_lt_end, if_false, L_const]
  | cons x r ih =>
    intro pre hb
    rw [L_shift]
    have hl : pre.length < 4611686018427387904 := by simp at hb; omega
    simp only [laws_eqIntS.l0, lt_mid, le_nat, if_true, rd_mid, wrap_mid pre x hl]
    rw [app_cons pre x r]
    exact ih (pre ++ [x]) (by simpa using hb)
theorem eqIntS_L (l : List Int) (h : l.length ≤ 1048576) : L (fun k => laws_eqIntS.f k l l) = some true := by
  simp only [laws_eqIntS.f, if_true]
  exact eqIntS_l l [] (by simp; omega)
def toJobP (x : S96) : S89 := ⟨x.f0, x.f1, x.f2, x.f3⟩
theorem toJobS_l (r : List S96) : ∀ pre : List S96, (pre ++ r).length < 4611686018427387904 → L (fun k => laws_toJobS.l0 k (pre ++ r) (pre.map toJobP ++ List.replicate r.length z89) (pre.length : Int)) = some ((pre ++ r).map toJobP) := by
  induction r with
  | nil =>
    intro pre hb
    rw [L_shift]
    simp only [laws_toJobS.l0, not_lt_end, if_false, L_const, List.length_nil, List.replicate_zero]
    simp
  | cons x r ih =>
    intro pre hb
    rw [L_shift]
    have hl : pre.length < 4611686018427387904 := by simp at hb; omega
    have e : rd_T96 (pre ++ x :: r) (pre.length : Int) = x := getD_mid pre x r _
    have e2 : ((pre.length : Int) < ((pre.map toJobP ++ z89 :: List.replicate r.length z89).length : Int)) = True := by
      simp only [List.length_append, List.length_cons, List.length_map]
      exact eq_true (by omega)
    simp only [laws_toJobS.l0, laws_toJob.f, lt_mid, le_nat, if_true, rep_succ, e, e2, wrap_mid pre x hl, Option.bind_some, set_mid (pre.map toJobP) _ _ _ pre (by simp)]
    have := ih (pre ++ [x]) (by simpa using hb)
    simpa [toJobP] using this
theorem toJobS_L (l : List S96) (h : l.length ≤ 1048576) : L (fun k => laws_toJobS.f k l) = some (l.map toJobP) := by
  simp only [laws_toJobS.f, le_nat, if_true, Int.toNat_natCast, if_pos (show l.length ≤ 8796093022208 by omega)]
  exact toJobS_l l [] (by simp; omega)
theorem eqJobS_l (r : List S89) : ∀ pre : List S89, (pre ++ r).length < 4611686018427387904 → L (fun k => laws_eqJobS.l0 k (pre ++ r) (pre ++ r) (pre.length : Int)) = some true := by
  induction r with
  | nil =>
    intro pre hb
    rw [L_shift]
    simp only [laws_eqJobS.l0, not_lt_end, if_false, L_const]
  | cons x r ih =>
    intro pre hb
    rw [L_shift]
    have hl : pre.length < 4611686018427387904 := by simp at hb; omega
    simp only [laws_eqJobS.l0, laws_eqJob.f, lt_mid, le_nat, if_true, wrap_mid pre x hl, Option.bind_some]
    rw [app_cons pre x r]
    exact ih (pre ++ [x]) (by simpa using hb)
theorem eqJobS_L (l : List S89) (h : l.length ≤ 1048576) : L (fun k => laws_eqJobS.f k l l) = some true := by
  simp only [laws_eqJobS.f, if_true]
  exact eqJobS_l l [] (by simp; omega)
theorem szJobS_e (l : List S96) (h : l.length ≤ 9223372036854775807) : laws_szJobS.f l 1048576 = if l.length ≤ 1048576 then some (1048576 - (l.length : Int)) else some (-1) := by
  unfold laws_szJobS.f
  have e : wrap64 (1048576 - (l.length : Int)) = 1048576 - (l.length : Int) := wrap_id (by omega) (by omega)
  rw [e]
  by_cases h2 : l.length ≤ 1048576
  · rw [if_neg (by omega), if_pos h2]
  · rw [if_pos (by omega), if_neg h2]
/-- The numbers from v on, as many as a list has. -/
def countI {α : Type} : Int → List α → List Int
  | _, [] => []
  | v, _ :: r => v :: countI (v + 1) r
theorem markIntS_l (r : List Int) : ∀ (pre : List Int) (v : Int), (pre ++ r).length < 4611686018427387904 → 0 ≤ v → v + r.length < 9223372036854775807 → L (fun k => laws_markIntS.l0 k (pre ++ r) v (pre.length : Int)) = some (v + r.length, pre ++ countI v r) := by
  induction r with
  | nil =>
    intro pre v hb h0 h1
    rw [L_shift]
    simp only [laws_markIntS.l0, not_lt_end, if_false, L_const]
    simp [countI]
  | cons x r ih =>
    intro pre v hb h0 h1
    rw [L_shift]
    have hl : pre.length < 4611686018427387904 := by simp at hb; omega
    simp only [List.length_cons] at h1
    simp only [laws_markIntS.l0, lt_mid, le_nat, if_true, wrap_mid pre v hl, set_mid pre x v r pre rfl, wrap_id (show -9223372036854775808 ≤ v + 1 by omega) (show v + 1 ≤ 9223372036854775807 by omega)]
    rw [app_cons pre v r, ih (pre ++ [v]) (v + 1) (by simpa using hb) (by omega) (by omega)]
    simp only [countI, List.length_cons, Option.some.injEq, Prod.mk.injEq]
    exact ⟨by omega, by simp⟩
theorem markIntS_L (l : List Int) (v : Int) (h : l.length ≤ 1048576) (h0 : 0 ≤ v) (h1 : v ≤ 9000000000000000000) : L (fun k => laws_markIntS.f k l v) = some (v + l.length, countI v l) := by
  have := markIntS_l l [] v (by simp; omega) h0 (by omega)
  simpa [laws_markIntS.f] using this
theorem heldIntS_l {α : Type} (r : List α) : ∀ (pre : List Int) (v : Int), (pre.length + r.length) < 4611686018427387904 → 0 ≤ v → v + r.length < 9223372036854775807 → L (fun k => laws_heldIntS.l0 k (pre ++ countI v r) v (pre.length : Int)) = some (v + r.length) := by
  induction r with
  | nil =>
    intro pre v hb h0 h1
    rw [L_shift]
    simp only [laws_heldIntS.l0, countI, not_lt_end, if_false, L_const]
    simp
  | cons x r ih =>
    intro pre v hb h0 h1
    rw [L_shift]
    simp only [List.length_cons] at h1 hb
    have hl : pre.length < 4611686018427387904 := by omega
    simp only [laws_heldIntS.l0, countI, lt_mid, le_nat, if_true, rd_mid, wrap_mid pre v hl, wrap_id (show -9223372036854775808 ≤ v + 1 by omega) (show v + 1 ≤ 9223372036854775807 by omega)]
    rw [app_cons pre v (countI _ r), ih (pre ++ [v]) (v + 1) (by simp; omega) (by omega) (by omega)]
    simp only [List.length_cons, Option.some.injEq]
    omega
theorem heldIntS_L {α : Type} (l : List α) (v : Int) (h : l.length ≤ 1048576) (h0 : 0 ≤ v) (h1 : v ≤ 9000000000000000000) : L (fun k => laws_heldIntS.f k (countI v l) v) = some (v + l.length) := by
  have := heldIntS_l l [] v (by simp; omega) h0 (by omega)
  simpa [laws_heldIntS.f] using this
def countJ : Int → List S89 → List S89
  | _, [] => []
  | v, _ :: r => ⟨v, v + 1, v + 1 + 1, v + 1 + 1 + 1⟩ :: countJ (v + 1 + 1 + 1 + 1) r
theorem markJobS_l (r : List S89) : ∀ (pre : List S89) (v : Int), (pre ++ r).length < 4611686018427387904 → 0 ≤ v → v + 4 * r.length < 9223372036854775807 → L (fun k => laws_markJobS.l0 k (pre ++ r) v (pre.length : Int)) = some (v + 4 * r.length, pre ++ countJ v r) := by
  induction r with
  | nil =>
    intro pre v hb h0 h1
    rw [L_shift]
    simp only [laws_markJobS.l0, not_lt_end, if_false, L_const]
    simp [countJ]
  | cons x r ih =>
    intro pre v hb h0 h1
    rw [L_shift]
    have hl : pre.length < 4611686018427387904 := by simp at hb; omega
    simp only [List.length_cons] at h1
    have e : ∀ y, rd_T89 (pre ++ y :: r) (pre.length : Int) = y := fun y => getD_mid pre y r _
    have es : ∀ y z, (pre ++ y :: r).set (pre.length : Int).toNat z = pre ++ z :: r := fun y z => set_mid pre y z r pre rfl
    simp only [laws_markJobS.l0, lt_mid, le_nat, if_true, Option.bind_some, e, es, wrap_mid pre x hl, wrap_id (show -9223372036854775808 ≤ v + 1 by omega) (show v + 1 ≤ 9223372036854775807 by omega), wrap_id (show -9223372036854775808 ≤ v + 1 + 1 by omega) (show v + 1 + 1 ≤ 9223372036854775807 by omega), wrap_id (show -9223372036854775808 ≤ v + 1 + 1 + 1 by omega) (show v + 1 + 1 + 1 ≤ 9223372036854775807 by omega), wrap_id (show -9223372036854775808 ≤ v + 1 + 1 + 1 + 1 by omega) (show v + 1 + 1 + 1 + 1 ≤ 9223372036854775807 by omega)]
    have := ih (pre ++ [⟨v, v + 1, v + 1 + 1, v + 1 + 1 + 1⟩]) (v + 1 + 1 + 1 + 1) (by simpa using hb) (by omega) (by omega)
    simp only [List.append_assoc, List.cons_append, List.nil_append, List.length_append, List.length_cons, List.length_nil] at this ⊢
    rw [this]
    simp only [countJ, Option.some.injEq, Prod.mk.injEq]
    exact ⟨by omega, by first | rfl | trivial⟩
theorem markJobS_L (l : List S89) (v : Int) (h : l.length ≤ 1048576) (h0 : 0 ≤ v) (h1 : v ≤ 9000000000000000000) : L (fun k => laws_markJobS.f k l v) = some (v + 4 * l.length, countJ v l) := by
  have := markJobS_l l [] v (by simp; omega) h0 (by omega)
  simpa [laws_markJobS.f] using this
theorem ite_and (b c : Bool) : (if b = true then some c else some false) = some (b && c) := by cases b <;> rfl
def inB (a lo hi : Int) : Bool := decide (lo ≤ a) && decide (a ≤ hi)
theorem inB_iff {a lo hi : Int} : inB a lo hi = true ↔ lo ≤ a ∧ a ≤ hi := by simp [inB]
theorem within_e (a lo hi : Int) : impl_within.f a lo hi = some (inB a lo hi) := by
  unfold impl_within.f inB
  by_cases h : lo ≤ a <;> simp [h]
theorem l1In_e (a lo hi : Int) : spec_l1In.f a lo hi = some (inB a lo hi) := by
  unfold spec_l1In.f inB
  by_cases h : lo ≤ a <;> simp [h]
theorem mx_e (a b : Int) : mx a b = max a b := by
  unfold mx
  omega
theorem mn_e (a b : Int) : mn a b = min a b := by
  unfold mn
  omega
theorem l1Most_e (a b : Int) : spec_l1Most.f a b = some (max a b) := by
  unfold spec_l1Most.f
  by_cases h : a > b
  · rw [if_pos h]
    congr 1
    omega
  · rw [if_neg h]
    congr 1
    omega
theorem l1Has_l (x : Int) (r : List Int) : ∀ pre : List Int, (pre ++ r).length < 4611686018427387904 → L (fun k => spec_l1Has.l0 k (pre ++ r) x (pre.length : Int)) = some (decide (x ∈ r)) := by
  induction r with
  | nil =>
    intro pre hb
    rw [L_shift]
    simp only [spec_l1Has.l0, not_lt_end, if_false, L_const]
    simp
  | cons y r ih =>
    intro pre hb
    rw [L_shift]
    have hl : pre.length < 4611686018427387904 := by simp at hb; omega
    simp only [spec_l1Has.l0, lt_mid, le_nat, if_true, rd_mid, wrap_mid pre y hl, L_ite, L_const]
    rw [app_cons pre y r, ih (pre ++ [y]) (by simpa using hb)]
    by_cases h : y = x
    · subst h
      simp
    · rw [if_neg h]
      have : ¬ x = y := fun e => h e.symm
      simp [this]
theorem l1Has_L (l : List Int) (x : Int) (h : l.length < 4611686018427387904) : L (fun k => spec_l1Has.f k l x) = some (decide (x ∈ l)) := l1Has_l x l [] (by simpa using h)
theorem has_l (x : Int) (r : List Int) : ∀ pre : List Int, (pre ++ r).length < 4611686018427387904 → L (fun k => impl_has.l0 k x (pre ++ r) ((pre ++ r).length : Int) (pre.length : Int)) = some (decide (x ∈ r)) := by
  induction r with
  | nil =>
    intro pre hb
    rw [L_shift]
    simp only [impl_has.l0, not_lt_end, if_false, L_const]
    simp
  | cons y r ih =>
    intro pre hb
    rw [L_shift]
    have hl : pre.length < 4611686018427387904 := by simp at hb; omega
    simp only [impl_has.l0, lt_mid, le_nat, if_true, rd_mid, wrap_mid pre y hl, L_ite, L_const]
    rw [app_cons pre y r, ih (pre ++ [y]) (by simpa using hb)]
    by_cases h : y = x
    · subst h
      simp
    · rw [if_neg h]
      have : ¬ x = y := fun e => h e.symm
      simp [this]
theorem has_L (l : List Int) (x : Int) (h : l.length < 4611686018427387904) : L (fun k => impl_has.f k l x) = some (decide (x ∈ l)) := has_l x l [] (by simpa using h)
theorem perm_of : ∀ (a b : List Int), a.Nodup → (∀ x ∈ a, x ∈ b) → b.length ≤ a.length → a.Perm b
  | [], b, _, _, hl => by
    have : b = [] := List.length_eq_zero_iff.1 (by simpa using hl)
    rw [this]
  | x :: a, b, hn, hs, hl => by
    have hx : x ∈ b := hs x List.mem_cons_self
    have hn' := List.nodup_cons.1 hn
    have hp := List.perm_cons_erase hx
    have h1 : (b.erase x).length ≤ a.length := by
      have := List.length_erase_of_mem hx
      simp at hl
      omega
    have h2 : ∀ y ∈ a, y ∈ b.erase x := fun y hy => (List.mem_erase_of_ne (by rintro rfl; exact hn'.1 hy)).2 (hs y (List.mem_cons_of_mem _ hy))
    exact ((perm_of a (b.erase x) hn'.2 h2 h1).cons x).trans hp.symm
def numsTo (n : Nat) : List Int := (List.range n).map (fun i : Nat => (i : Int))
theorem numsTo_length (n : Nat) : (numsTo n).length = n := by simp [numsTo]
theorem mem_numsTo {n : Nat} {x : Int} : x ∈ numsTo n ↔ 0 ≤ x ∧ x < n := by
  simp only [numsTo, List.mem_map, List.mem_range]
  constructor
  · rintro ⟨i, hi, rfl⟩
    omega
  · intro h
    exact ⟨x.toNat, by omega, by omega⟩
theorem numsTo_nodup (n : Nat) : (numsTo n).Nodup := by
  unfold numsTo
  exact List.Pairwise.map _ (fun a b h => by omega) List.nodup_range
/-- Different numbers of n things, none of them in pre. -/
def diffB (n : Int) : List Int → List Int → Bool
  | _, [] => true
  | pre, x :: r => inB x 0 (n - 1) && (!decide (x ∈ pre) && diffB n (pre ++ [x]) r)
/-- An order of n jobs. -/
def orderB (n : Nat) (l : List Int) : Bool := decide ((l.length : Int) = n) && diffB n [] l
def IsOrd (n : Nat) (l : List Int) : Prop := l.length = n ∧ (∀ x ∈ l, 0 ≤ x ∧ x < n) ∧ l.Nodup
theorem IsOrd.perm {n : Nat} {l : List Int} (h : IsOrd n l) : l.Perm (numsTo n) := perm_of l _ h.2.2 (fun x hx => mem_numsTo.2 (h.2.1 x hx)) (by rw [numsTo_length, h.1]; exact Nat.le_refl _)
theorem IsOrd.mem {n : Nat} {l : List Int} (h : IsOrd n l) {x : Int} : x ∈ l ↔ 0 ≤ x ∧ x < n := by rw [h.perm.mem_iff, mem_numsTo]
def jobB (j : S89) : Bool := inB j.f0 1 50 && (inB j.f1 0 50 && (inB j.f2 0 500 && inB j.f3 0 500))
def goodB (l : List S89) : Bool := l.all jobB && decide ((l.length : Int) ≤ 8)
structure JobOk (j : S89) : Prop where
  t0 : 1 ≤ j.f0
  t1 : j.f0 ≤ 50
  w0 : 0 ≤ j.f1
  w1 : j.f1 ≤ 50
  r0 : 0 ≤ j.f2
  r1 : j.f2 ≤ 500
  d0 : 0 ≤ j.f3
  d1 : j.f3 ≤ 500
def Good (l : List S89) : Prop := l.length ≤ 8 ∧ ∀ j ∈ l, JobOk j
theorem goodB_iff {l : List S89} : goodB l = true ↔ Good l := by
  simp only [goodB, Good, Bool.and_eq_true, List.all_eq_true, decide_eq_true_eq, jobB, inB_iff]
  constructor
  · rintro ⟨h, hl⟩
    exact ⟨by omega, fun j hj => by
      obtain ⟨⟨a, b⟩, ⟨c, d⟩, ⟨e, f⟩, g, i⟩ := h j hj
      exact ⟨a, b, c, d, e, f, g, i⟩⟩
  · rintro ⟨hl, h⟩
    exact ⟨fun j hj => ⟨⟨(h j hj).t0, (h j hj).t1⟩, ⟨(h j hj).w0, (h j hj).w1⟩, ⟨(h j hj).r0, (h j hj).r1⟩, (h j hj).d0, (h j hj).d1⟩, by omega⟩
theorem l2Job_e (j : S89) : spec_l2Job.f j.f0 j.f1 j.f2 j.f3 = some (jobB j) := by
  simp only [spec_l2Job.f, l1In_e, Option.bind_some, ite_and, jobB]
theorem l2Good_l (r : List S89) : ∀ pre : List S89, (pre ++ r).length < 4611686018427387904 → L (fun k => spec_l2Good.l0 k (pre ++ r) (pre.length : Int)) = some (r.all jobB && decide (((pre ++ r).length : Int) ≤ 8)) := by
  induction r with
  | nil =>
    intro pre hb
    rw [L_shift]
    simp only [spec_l2Good.l0, not_lt_end, if_false, L_const]
    simp
  | cons x r ih =>
    intro pre hb
    rw [L_shift]
    have hl : pre.length < 4611686018427387904 := by simp at hb; omega
    have e : rd_T89 (pre ++ x :: r) (pre.length : Int) = x := getD_mid pre x r _
    simp only [spec_l2Good.l0, lt_mid, le_nat, if_true, e, wrap_mid pre x hl, l2Job_e, Option.bind_some, L_ite, L_const]
    rw [app_cons pre x r, ih (pre ++ [x]) (by simpa using hb), ite_and]
    rw [List.all_cons, Bool.and_assoc]
theorem l2Good_L (l : List S89) (h : l.length < 4611686018427387904) : L (fun k => spec_l2Good.f k l) = some (goodB l) := by
  have := l2Good_l l [] (by simpa using h)
  simpa [goodB, spec_l2Good.f] using this
theorem isDate_e (n : Int) : impl_isDate.f n = some (inB n 0 500) := by
  simp only [impl_isDate.f, within_e, Option.bind_some]
theorem IsJobs_l (r : List S89) : ∀ pre : List S89, (pre ++ r).length < 4611686018427387904 → L (fun k => impl_IsJobs.l0 k (pre ++ r) ((pre ++ r).length : Int) (pre.length : Int)) = some (r.all jobB) := by
  induction r with
  | nil =>
    intro pre hb
    rw [L_shift]
    simp only [impl_IsJobs.l0, not_lt_end, if_false, L_const]
    simp
  | cons x r ih =>
    intro pre hb
    rw [L_shift]
    have hl : pre.length < 4611686018427387904 := by simp at hb; omega
    have e : rd_T89 (pre ++ x :: r) (pre.length : Int) = x := getD_mid pre x r _
    simp only [impl_IsJobs.l0, lt_mid, le_nat, if_true, e, wrap_mid pre x hl, within_e, isDate_e, Option.bind_some, L_ite, L_const]
    rw [app_cons pre x r, ih (pre ++ [x]) (by simpa using hb)]
    simp only [ite_and, List.all_cons, jobB, Bool.and_assoc]
theorem IsJobs_L (l : List S89) (h : l.length < 4611686018427387904) : L (fun k => impl_IsJobs.f k l) = some (goodB l) := by
  have := IsJobs_l l [] (by simpa using h)
  simp only [List.nil_append, List.length_nil, Int.natCast_zero] at this
  simp only [impl_IsJobs.f, L_ite, L_const, this, goodB]
  by_cases h8 : (l.length : Int) ≤ 8
  · rw [if_neg (by omega)]
    simp [h8]
  · rw [if_pos (by omega)]
    simp [h8]
def jobAt (l : List S89) (x : Int) : S89 := l.getD x.toNat z89
theorem jobAt_mem {l : List S89} {x : Int} (h0 : 0 ≤ x) (h1 : x < l.length) : jobAt l x ∈ l := by
  unfold jobAt
  rw [List.getD_eq_getElem?_getD, List.getElem?_eq_getElem (by omega)]
  exact List.getElem_mem _
/-- The ends, put into out by the jobs' numbers. -/
def endsF (l : List S89) : List Int → List Int → Int → List Int
  | [], out, _ => out
  | x :: r, out, now => endsF l r (out.set x.toNat (max now (jobAt l x).f2 + (jobAt l x).f0)) (max now (jobAt l x).f2 + (jobAt l x).f0)
def startsF (l : List S89) : List Int → List Int → Int → List Int
  | [], out, _ => out
  | x :: r, out, now => startsF l r (out.set x.toNat (max now (jobAt l x).f2)) (max now (jobAt l x).f2 + (jobAt l x).f0)
def endsP (l : List S89) (o : List Int) : List Int := endsF l o (List.replicate l.length 0) 0
def startsP (l : List S89) (o : List Int) : List Int := startsF l o (List.replicate l.length 0) 0
theorem endsF_length (l : List S89) : ∀ (o out : List Int) (now : Int), (endsF l o out now).length = out.length
  | [], out, now => rfl
  | x :: r, out, now => by rw [endsF, endsF_length l r, List.length_set]
theorem startsF_length (l : List S89) : ∀ (o out : List Int) (now : Int), (startsF l o out now).length = out.length
  | [], out, now => rfl
  | x :: r, out, now => by rw [startsF, startsF_length l r, List.length_set]
theorem endsP_length (l : List S89) (o : List Int) : (endsP l o).length = l.length := by rw [endsP, endsF_length, List.length_replicate]
theorem startsP_length (l : List S89) (o : List Int) : (startsP l o).length = l.length := by rw [startsP, startsF_length, List.length_replicate]
theorem ends_starts (l : List S89) : ∀ (o E S : List Int) (now : Int), E.length = l.length → S.length = l.length → (∀ x ∈ o, 0 ≤ x ∧ x < (l.length : Int)) →
    ∀ j : Nat, j < l.length → ((j : Int) ∈ o ∨ E.getD j 0 = S.getD j 0 + (l.getD j z89).f0) → (endsF l o E now).getD j 0 = (startsF l o S now).getD j 0 + (l.getD j z89).f0
  | [], E, S, now, _, _, _, j, _, h => by
    rcases h with h | h
    · cases h
    · exact h
  | x :: r, E, S, now, hE, hS, hx, j, hj, h => by
    rw [endsF, startsF]
    refine ends_starts l r _ _ _ (by rw [List.length_set, hE]) (by rw [List.length_set, hS]) (fun y hy => hx y (List.mem_cons_of_mem _ hy)) j hj ?_
    have hx0 := hx x List.mem_cons_self
    by_cases hr : (j : Int) ∈ r
    · exact .inl hr
    · right
      rw [getD_set, getD_set, hE, hS]
      by_cases e : x.toNat = j
      · rw [if_pos ⟨e, hj⟩, if_pos ⟨e, hj⟩]
        unfold jobAt
        rw [e]
      · rw [if_neg (fun h => e h.1), if_neg (fun h => e h.1)]
        rcases h with h | h
        · rcases List.mem_cons.1 h with h | h
          · exact absurd (by omega) e
          · exact absurd h hr
        · exact h
theorem ends_bounds (l : List S89) (hg : Good l) : ∀ (o E : List Int) (now : Int), 0 ≤ now → now ≤ 500 + 50 * (8 - o.length : Int) → o.length ≤ 8 → (∀ x ∈ o, 0 ≤ x ∧ x < (l.length : Int)) → (∀ v ∈ E, 0 ≤ v ∧ v ≤ 900) → ∀ v ∈ endsF l o E now, 0 ≤ v ∧ v ≤ 900
  | [], E, now, _, _, _, _, hE => hE
  | x :: r, E, now, h0, h1, hl, hx, hE => by
    rw [endsF]
    have hx0 := hx x List.mem_cons_self
    have hj := hg.2 _ (jobAt_mem hx0.1 hx0.2)
    have a0 := hj.t0
    have a1 := hj.t1
    have a2 := hj.r0
    have a3 := hj.r1
    simp only [List.length_cons] at h1 hl
    refine ends_bounds l hg r _ _ (by omega) (by omega) (by omega) (fun y hy => hx y (List.mem_cons_of_mem _ hy)) (fun v hv => ?_)
    rcases List.mem_or_eq_of_mem_set hv with h | h
    · exact hE v h
    · rw [h]
      omega
theorem endsP_bounds {l : List S89} {o : List Int} (hg : Good l) (ho : IsOrd l.length o) : ∀ v ∈ endsP l o, 0 ≤ v ∧ v ≤ 900 :=
  ends_bounds l hg o _ 0 (by omega) (by have := ho.1; have := hg.1; omega) (by have := ho.1; have := hg.1; omega) ho.2.1 (fun v hv => by rw [(List.mem_replicate.1 hv).2]; omega)
theorem endsP_starts {l : List S89} {o : List Int} (ho : IsOrd l.length o) (j : Nat) (hj : j < l.length) : (endsP l o).getD j 0 = (startsP l o).getD j 0 + (l.getD j z89).f0 :=
  ends_starts l o _ _ 0 (by simp) (by simp) ho.2.1 j hj (.inl (ho.mem.2 ⟨by omega, by omega⟩))
theorem endsOf_l (l : List S89) (hg : Good l) (r : List Int) (hx : ∀ x ∈ r, 0 ≤ x ∧ x < (l.length : Int)) : ∀ (pre E : List Int) (now : Int), (pre ++ r).length < 4611686018427387904 → E.length = l.length → 0 ≤ now → now + 50 * r.length ≤ 900 → r.length ≤ 8 →
    L (fun k => impl_endsOf.l0 k l E now (pre ++ r) ((pre ++ r).length : Int) (pre.length : Int)) = some (endsF l r E now) := by
  induction r with
  | nil =>
    intro pre E now hb _ _ _ _
    rw [L_shift]
    simp only [impl_endsOf.l0, not_lt_end, if_false, L_const, endsF]
  | cons x r ih =>
    intro pre E now hb hE h0 h1 h2
    rw [L_shift]
    have hl : pre.length < 4611686018427387904 := by simp at hb; omega
    have hx0 := hx x List.mem_cons_self
    have hj := hg.2 _ (jobAt_mem hx0.1 hx0.2)
    have a0 := hj.t0
    have a1 := hj.t1
    have a2 := hj.r0
    have a3 := hj.r1
    simp only [List.length_cons] at h1 h2
    have e : rd_T89 l x = jobAt l x := rfl
    simp only [impl_endsOf.l0, lt_mid, le_nat, if_true, rd_mid, wrap_mid pre x hl, e, mx_e, if_pos hx0.1, if_pos hx0.2, if_pos (show x < (E.length : Int) by omega), wrap_id (show -9223372036854775808 ≤ max now (jobAt l x).f2 + (jobAt l x).f0 by omega) (show max now (jobAt l x).f2 + (jobAt l x).f0 ≤ 9223372036854775807 by omega)]
    rw [app_cons pre x r, endsF]
    exact ih (fun y hy => hx y (List.mem_cons_of_mem _ hy)) (pre ++ [x]) _ _ (by simpa using hb) (by rw [List.length_set, hE]) (by omega) (by omega) (by omega)
theorem endsOf_L (l : List S89) (o : List Int) (hg : Good l) (ho : IsOrd l.length o) : L (fun k => impl_endsOf.f k l o) = some (endsP l o) := by
  have h8 := hg.1
  have hl := ho.1
  simp only [impl_endsOf.f, le_nat, if_true, Int.toNat_natCast, if_pos (show l.length ≤ 35184372088832 by omega)]
  exact endsOf_l l hg o ho.2.1 [] _ 0 (by simp; omega) (by simp) (by omega) (by omega) (by omega)
theorem l2Starts_l (l : List S89) (hg : Good l) (r : List Int) (hx : ∀ x ∈ r, 0 ≤ x ∧ x < (l.length : Int)) : ∀ (pre E : List Int) (now : Int), (pre ++ r).length < 4611686018427387904 → E.length = l.length → 0 ≤ now → now + 50 * r.length ≤ 900 → r.length ≤ 8 →
    L (fun k => spec_l2Starts.l0 k l (pre ++ r) E now (pre.length : Int)) = some (startsF l r E now) := by
  induction r with
  | nil =>
    intro pre E now hb _ _ _ _
    rw [L_shift]
    simp only [spec_l2Starts.l0, not_lt_end, if_false, L_const, startsF]
  | cons x r ih =>
    intro pre E now hb hE h0 h1 h2
    rw [L_shift]
    have hl : pre.length < 4611686018427387904 := by simp at hb; omega
    have hx0 := hx x List.mem_cons_self
    have hj := hg.2 _ (jobAt_mem hx0.1 hx0.2)
    have a0 := hj.t0
    have a1 := hj.t1
    have a2 := hj.r0
    have a3 := hj.r1
    simp only [List.length_cons] at h1 h2
    have e : rd_T89 l x = jobAt l x := rfl
    have e2 : rd (E.set x.toNat (max now (jobAt l x).f2)) x = max now (jobAt l x).f2 := by
      show (E.set x.toNat (max now (jobAt l x).f2)).getD x.toNat 0 = _
      rw [getD_set, if_pos ⟨rfl, by omega⟩]
    simp only [spec_l2Starts.l0, lt_mid, le_nat, if_true, rd_mid, wrap_mid pre x hl, e, l1Most_e, Option.bind_some, e2, if_pos hx0.1, if_pos hx0.2, if_pos (show x < (E.length : Int) by omega), wrap_id (show -9223372036854775808 ≤ max now (jobAt l x).f2 + (jobAt l x).f0 by omega) (show max now (jobAt l x).f2 + (jobAt l x).f0 ≤ 9223372036854775807 by omega)]
    rw [app_cons pre x r, startsF]
    exact ih (fun y hy => hx y (List.mem_cons_of_mem _ hy)) (pre ++ [x]) _ _ (by simpa using hb) (by rw [List.length_set, hE]) (by omega) (by omega) (by omega)
theorem l2Starts_L (l : List S89) (o : List Int) (hg : Good l) (ho : IsOrd l.length o) : L (fun k => spec_l2Starts.f k l o) = some (startsP l o) := by
  have h8 := hg.1
  have hl := ho.1
  simp only [spec_l2Starts.f, le_nat, if_true, Int.toNat_natCast, if_pos (show l.length ≤ 35184372088832 by omega)]
  exact l2Starts_l l hg o ho.2.1 [] _ 0 (by simp; omega) (by simp) (by omega) (by omega) (by omega)
theorem l2Ends_l (l : List S89) (T : List Int) (hT : T.length = l.length) (hB : ∀ j : Nat, j < l.length → -1000000 ≤ T.getD j 0 + (l.getD j z89).f0 ∧ T.getD j 0 + (l.getD j z89).f0 ≤ 1000000) (h8 : l.length ≤ 8) : ∀ (d i : Nat) (S : List Int), i + d = l.length → S.length = l.length →
    (∀ j : Nat, j < l.length → S.getD j 0 = if j < i then T.getD j 0 + (l.getD j z89).f0 else T.getD j 0) →
    ∃ R : List Int, L (fun k => spec_l2Ends.l0 k l S (i : Int)) = some R ∧ R.length = l.length ∧ ∀ j : Nat, j < l.length → R.getD j 0 = T.getD j 0 + (l.getD j z89).f0
  | 0, i, S, hi, hS, h => by
    refine ⟨S, ?_, hS, fun j hj => by rw [h j hj, if_pos (by omega)]⟩
    rw [L_shift]
    simp only [spec_l2Ends.l0, if_neg (show ¬ (i : Int) < (l.length : Int) by omega), L_const]
  | d + 1, i, S, hi, hS, h => by
    rw [L_shift]
    have hb := hB i (by omega)
    have e1 : rd S (i : Int) = T.getD i 0 := by
      show S.getD (i : Int).toNat 0 = _
      rw [Int.toNat_natCast, h i (by omega), if_neg (by omega)]
    have e2 : rd_T89 l (i : Int) = l.getD i z89 := by
      show l.getD (i : Int).toNat z89 = _
      rw [Int.toNat_natCast]
    have e3 : wrap64 ((i : Int) + 1) = ((i + 1 : Nat) : Int) := by
      rw [wrap_id (by omega) (by omega)]
      omega
    simp only [spec_l2Ends.l0, if_pos (show (i : Int) < (l.length : Int) by omega), if_pos (show (i : Int) < (S.length : Int) by omega), le_nat, if_true, e1, e2, e3, Int.toNat_natCast, wrap_id (show -9223372036854775808 ≤ T.getD i 0 + (l.getD i z89).f0 by omega) (by omega)]
    refine l2Ends_l l T hT hB h8 d (i + 1) _ (by omega) (by rw [List.length_set, hS]) (fun j hj => ?_)
    rw [getD_set]
    by_cases e : i = j
    · subst e
      rw [if_pos ⟨rfl, by omega⟩, if_pos (by omega)]
    · rw [if_neg (fun h => e h.1), h j hj]
      by_cases hji : j < i
      · rw [if_pos hji, if_pos (by omega)]
      · rw [if_neg hji, if_neg (by omega)]
theorem l2Ends_L (l : List S89) (o : List Int) (hg : Good l) (ho : IsOrd l.length o) : L (fun k => spec_l2Ends.f k l o) = some (endsP l o) := by
  simp only [spec_l2Ends.f, L_bind, l2Starts_L l o hg ho, Option.bind_some]
  have hb := endsP_bounds hg ho
  obtain ⟨R, h1, h2, h3⟩ := l2Ends_l l (startsP l o) (startsP_length l o) (fun j hj => by
    rw [← endsP_starts ho j hj]
    have := hb _ (getD_mem (l := endsP l o) (j := j) (by rw [endsP_length]; exact hj))
    omega) hg.1 l.length 0 (startsP l o) (by omega) (startsP_length l o) (fun j hj => by rw [if_neg (by omega)])
  rw [show (0 : Int) = ((0 : Nat) : Int) from rfl, h1]
  congr 1
  refine ext_getD (by rw [h2, endsP_length]) (fun j hj => ?_)
  rw [h3 j (by omega), endsP_starts ho j (by omega)]
theorem l1Own_e (l : List Int) (h : l.length ≤ 1048576) : spec_l1Own.f l = some l := by
  simp only [spec_l1Own.f, Option.bind_some, List.length_nil, List.nil_append]
  rw [if_pos (by omega)]
/-- The numbers v, v + 1, .., d of them. -/
def upI : Nat → Int → List Int
  | 0, _ => []
  | d + 1, v => v :: upI d (v + 1)
theorem mem_upI : ∀ (d : Nat) (v x : Int), x ∈ upI d v ↔ v ≤ x ∧ x < v + d
  | 0, v, x => by
    simp only [upI, List.not_mem_nil, false_iff]
    omega
  | d + 1, v, x => by
    rw [upI, List.mem_cons, mem_upI d (v + 1) x]
    omega
theorem upI_length : ∀ (d : Nat) (v : Int), (upI d v).length = d
  | 0, v => rfl
  | d + 1, v => by rw [upI, List.length_cons, upI_length d]
/-- The numbers below n that are not in a list. -/
def leftL (n : Nat) (out : List Int) : List Int := (upI n 0).filter (fun x => !decide (x ∈ out))
theorem mem_leftL {n : Nat} {out : List Int} {x : Int} : x ∈ leftL n out ↔ (0 ≤ x ∧ x < n) ∧ x ∉ out := by
  simp [leftL, mem_upI]
theorem leftL_ne {n : Nat} {out : List Int} (h : out.length < n) : leftL n out ≠ [] := by
  intro he
  have hs : ∀ x ∈ numsTo n, x ∈ out := by
    intro x hx
    have hx := mem_numsTo.1 hx
    apply Classical.byContradiction
    intro hn
    have : x ∈ leftL n out := mem_leftL.2 ⟨hx, hn⟩
    rw [he] at this
    cases this
  have := (perm_of (numsTo n) out (numsTo_nodup n) hs (by rw [numsTo_length]; omega)).length_eq
  rw [numsTo_length] at this
  omega
theorem leftL_len (n : Nat) (out : List Int) : (leftL n out).length ≤ n := by
  have := List.length_filter_le (fun x => !decide (x ∈ out)) (upI n 0)
  rw [upI_length] at this
  exact this
theorem others_l (n : Nat) (out : List Int) (hn : n ≤ 1048576) (ho : out.length < 4611686018427387904) : ∀ (d : Nat) (i : Int) (acc : List Int), 0 ≤ i → i + d = n → acc.length + d ≤ 2000000 →
    L (fun k => impl_others.l0 k (n : Int) out acc i) = some (acc ++ (upI d i).filter (fun x => !decide (x ∈ out)))
  | 0, i, acc, h0, hi, ha => by
    rw [L_shift]
    simp only [impl_others.l0, if_neg (show ¬ (i < (n : Int)) by omega), L_const, upI, List.filter_nil, List.append_nil]
  | d + 1, i, acc, h0, hi, ha => by
    rw [L_shift]
    simp only [impl_others.l0, if_pos (show (i < (n : Int)) by omega), L_bind, has_L out i ho, Option.bind_some, L_ite, L_const, wrap_id (show -9223372036854775808 ≤ i + 1 by omega) (show i + 1 ≤ 9223372036854775807 by omega), if_pos (show acc.length < 17592186044416 by omega), upI]
    by_cases h : i ∈ out
    · rw [if_pos (decide_eq_true h), others_l n out hn ho d (i + 1) acc (by omega) (by omega) (by omega), List.filter_cons, if_neg (by simp [h])]
    · rw [if_neg (by simp [h]), others_l n out hn ho d (i + 1) (acc ++ [i]) (by omega) (by omega) (by simp; omega), List.filter_cons, if_pos (by simp [h]), List.append_assoc]
      rfl
theorem others_L (n : Nat) (out : List Int) (hn : n ≤ 1048576) (ho : out.length < 4611686018427387904) : L (fun k => impl_others.f k (n : Int) out) = some (leftL n out) := by
  have := others_l n out hn ho n 0 [] (by omega) (by omega) (by simp; omega)
  simpa [impl_others.f, leftL] using this
/-- The job with the least date among those of a list with a release that is not above a time; the first of the tied. -/
def pickF (l : List S89) (t : Int) : Int → List Int → Int
  | best, [] => best
  | best, x :: r => if (jobAt l x).f2 ≤ t then (if best < 0 then pickF l t x r else if (jobAt l x).f3 < (jobAt l best).f3 then pickF l t x r else pickF l t best r) else pickF l t best r
theorem pickF_mem (l : List S89) (t : Int) : ∀ (r : List Int) (best : Int), pickF l t best r = best ∨ (pickF l t best r ∈ r ∧ (jobAt l (pickF l t best r)).f2 ≤ t)
  | [], best => .inl rfl
  | x :: r, best => by
    rw [pickF]
    have key : ∀ b, b = best ∨ (b = x ∧ (jobAt l x).f2 ≤ t) → pickF l t b r = best ∨ (pickF l t b r ∈ x :: r ∧ (jobAt l (pickF l t b r)).f2 ≤ t) := by
      intro b hb
      rcases pickF_mem l t r b with h | ⟨h, h2⟩
      · rw [h]
        rcases hb with rfl | ⟨rfl, hb⟩
        · exact .inl rfl
        · exact .inr ⟨List.mem_cons_self, hb⟩
      · exact .inr ⟨List.mem_cons_of_mem _ h, h2⟩
    split
    · rename_i hx
      split
      · exact key x (.inr ⟨rfl, hx⟩)
      · split
        · exact key x (.inr ⟨rfl, hx⟩)
        · exact key best (.inl rfl)
    · exact key best (.inl rfl)
theorem pickF_none (l : List S89) (t : Int) : ∀ (r : List Int) (best : Int), (∀ x ∈ r, t < (jobAt l x).f2) → pickF l t best r = best
  | [], best, _ => rfl
  | x :: r, best, h => by
    have := h x List.mem_cons_self
    rw [pickF, if_neg (by omega)]
    exact pickF_none l t r best (fun y hy => h y (List.mem_cons_of_mem _ hy))
theorem pickF_some (l : List S89) (t : Int) : ∀ (r : List Int) (best : Int), (∀ x ∈ r, 0 ≤ x) → (0 ≤ best ∨ ∃ x ∈ r, (jobAt l x).f2 ≤ t) → 0 ≤ pickF l t best r
  | [], best, _, h => by
    rcases h with h | ⟨x, hx, _⟩
    · exact h
    · cases hx
  | x :: r, best, h0, h => by
    have hx0 := h0 x List.mem_cons_self
    have hr0 : ∀ y ∈ r, 0 ≤ y := fun y hy => h0 y (List.mem_cons_of_mem _ hy)
    rw [pickF]
    split
    · split
      · exact pickF_some l t r x hr0 (.inl hx0)
      · split
        · exact pickF_some l t r x hr0 (.inl hx0)
        · exact pickF_some l t r best hr0 (.inl (by omega))
    · rename_i hx
      refine pickF_some l t r best hr0 ?_
      rcases h with h | ⟨y, hy, hy2⟩
      · exact .inl h
      · rcases List.mem_cons.1 hy with rfl | hy
        · exact absurd hy2 hx
        · exact .inr ⟨y, hy, hy2⟩
/-- The first time at which one of some jobs may start. -/
def timeF (l : List S89) (e : Int) : Int → List Int → Int
  | t, [] => t
  | t, x :: r => timeF l e (min t (max e (jobAt l x).f2)) r
theorem timeF_le (l : List S89) (e : Int) : ∀ (r : List Int) (t : Int), timeF l e t r ≤ t ∧ ∀ x ∈ r, timeF l e t r ≤ max e (jobAt l x).f2
  | [], t => ⟨Int.le_refl _, fun x hx => by cases hx⟩
  | y :: r, t => by
    obtain ⟨h1, h2⟩ := timeF_le l e r (min t (max e (jobAt l y).f2))
    rw [timeF]
    refine ⟨by omega, fun x hx => ?_⟩
    rcases List.mem_cons.1 hx with rfl | hx
    · omega
    · exact h2 x hx
theorem timeF_eq (l : List S89) (e : Int) : ∀ (r : List Int) (t : Int), timeF l e t r = t ∨ ∃ x ∈ r, timeF l e t r = max e (jobAt l x).f2
  | [], t => .inl rfl
  | y :: r, t => by
    rw [timeF]
    rcases timeF_eq l e r (min t (max e (jobAt l y).f2)) with h | ⟨x, hx, h⟩
    · by_cases hc : t ≤ max e (jobAt l y).f2
      · exact .inl (by omega)
      · exact .inr ⟨y, List.mem_cons_self, by omega⟩
    · exact .inr ⟨x, List.mem_cons_of_mem _ hx, h⟩
theorem l5Next_l (l : List S89) (hl : l.length ≤ 1048576) (out : List Int) (ho : out.length < 4611686018427387904) (t : Int) : ∀ (d : Nat) (i best : Int), 0 ≤ i → i + d = l.length → best < l.length →
    L (fun k => spec_l5Next.l0 k l out t best i) = some (pickF l t best ((upI d i).filter (fun x => !decide (x ∈ out))))
  | 0, i, best, h0, hi, hb => by
    rw [L_shift]
    simp only [spec_l5Next.l0, if_neg (show ¬ (i < (l.length : Int)) by omega), L_const, upI, List.filter_nil, pickF]
  | d + 1, i, best, h0, hi, hb => by
    rw [L_shift]
    have e : rd_T89 l i = jobAt l i := rfl
    have e2 : rd_T89 l best = jobAt l best := rfl
    simp only [spec_l5Next.l0, if_pos (show (i < (l.length : Int)) by omega), L_bind, l1Has_L out i ho, Option.bind_some, L_ite, L_const, wrap_id (show -9223372036854775808 ≤ i + 1 by omega) (show i + 1 ≤ 9223372036854775807 by omega), if_pos h0, e, e2, upI,
      l5Next_l l hl out ho t d (i + 1) best (by omega) (by omega) hb, l5Next_l l hl out ho t d (i + 1) i (by omega) (by omega) (by omega)]
    by_cases h : i ∈ out
    · rw [if_pos (decide_eq_true h), List.filter_cons_of_neg (by simp [h])]
    · rw [if_neg (by simp [h]), List.filter_cons_of_pos (by simp [h])]
      generalize (upI d (i + 1)).filter (fun x => !decide (x ∈ out)) = R
      simp only [pickF]
      by_cases h1 : (jobAt l i).f2 ≤ t
      · simp only [if_pos h1]
        by_cases h2 : best < 0
        · simp only [if_pos h2]
        · simp only [if_neg h2, if_pos (show 0 ≤ best by omega), if_pos hb]
          split <;> rfl
      · simp only [if_neg h1]
theorem l5Next_L (l : List S89) (hl : l.length ≤ 1048576) (out : List Int) (ho : out.length < 4611686018427387904) (t : Int) : L (fun k => spec_l5Next.f k l out t) = some (pickF l t (-1) (leftL l.length out)) := by
  have := l5Next_l l hl out ho t l.length 0 (-1) (by omega) (by omega) (by omega)
  simpa [spec_l5Next.f, leftL] using this
theorem greedy_l1 (l : List S89) (out : List Int) (e : Int) (W : List Int) : ∀ (r pre : List Int) (t : Int), (pre ++ r).length < 1000000 → (∀ x ∈ r, 0 ≤ x ∧ x < (l.length : Int)) →
    L (fun k => impl_greedyOrder.l1 k l out e W t (pre ++ r) ((pre ++ r).length : Int) (pre.length : Int)) = L (fun k => impl_greedyOrder.l2 k l out (timeF l e t r) (-1) W (W.length : Int) 0)
  | [], pre, t, hb, hr => by
    rw [L_shift]
    simp only [impl_greedyOrder.l1, not_lt_end, if_false, timeF]
  | x :: r, pre, t, hb, hr => by
    rw [L_shift]
    have hl : pre.length < 4611686018427387904 := by simp at hb; omega
    have hx := hr x List.mem_cons_self
    have e1 : rd_T89 l x = jobAt l x := rfl
    simp only [impl_greedyOrder.l1, lt_mid, le_nat, if_true, rd_mid, if_pos hx.1, if_pos hx.2, e1, mx_e, mn_e, wrap_mid pre x hl, timeF]
    rw [app_cons pre x r]
    exact greedy_l1 l out e W r (pre ++ [x]) _ (by simpa using hb) (fun y hy => hr y (List.mem_cons_of_mem _ hy))
theorem greedy_l2 (l : List S89) (out : List Int) (t : Int) : ∀ (r pre : List Int) (best : Int), (pre ++ r).length < 1000000 → (∀ x ∈ r, 0 ≤ x ∧ x < (l.length : Int)) → best < l.length →
    L (fun k => impl_greedyOrder.l2 k l out t best (pre ++ r) ((pre ++ r).length : Int) (pre.length : Int)) = L (fun k => if out.length < 17592186044416 then (if 0 ≤ pickF l t best r then (if pickF l t best r < (l.length : Int) then (impl_greedyOrder.l0 k l (out ++ [pickF l t best r]) (wrap64 (t + ((rd_T89 l (pickF l t best r)).f0)))) else (none)) else (none)) else (none))
  | [], pre, best, hb, hr, hbest => by
    rw [L_shift]
    simp only [impl_greedyOrder.l2, not_lt_end, if_false, pickF]
    rfl
  | x :: r, pre, best, hb, hr, hbest => by
    rw [L_shift]
    have hl : pre.length < 4611686018427387904 := by simp at hb; omega
    have hx := hr x List.mem_cons_self
    have e1 : rd_T89 l x = jobAt l x := rfl
    have e2 : rd_T89 l best = jobAt l best := rfl
    simp only [impl_greedyOrder.l2, lt_mid, le_nat, if_true, rd_mid, if_pos hx.1, if_pos hx.2, e1, e2, wrap_mid pre x hl, pickF]
    rw [app_cons pre x r]
    have i1 := greedy_l2 l out t r (pre ++ [x]) x (by simpa using hb) (fun y hy => hr y (List.mem_cons_of_mem _ hy)) hx.2
    have i2 := greedy_l2 l out t r (pre ++ [x]) best (by simpa using hb) (fun y hy => hr y (List.mem_cons_of_mem _ hy)) hbest
    by_cases h1 : (jobAt l x).f2 ≤ t
    · simp only [if_pos h1]
      by_cases h2 : best < 0
      · simp only [if_pos h2]
        exact i1
      · simp only [if_neg h2, if_pos (show 0 ≤ best by omega), if_pos hbest]
        by_cases h3 : (jobAt l x).f3 < (jobAt l best).f3
        · simp only [if_pos h3]
          exact i1
        · simp only [if_neg h3]
          exact i2
    · simp only [if_neg h1]
      exact i2
theorem greedy_wait (l : List S89) (hl : l.length ≤ 1048576) (out : List Int) (ho : out.length < l.length) (T : Int) (hT : T ≤ 1000000) (now0 : Int) (hT2 : now0 < T → ∀ x ∈ leftL l.length out, T ≤ (jobAt l x).f2) : ∀ (d : Nat) (now : Int), now0 ≤ now → 0 ≤ now → now + d = T →
    L (fun k => spec_l5Greedy.l0 k l out now) = L (fun k => spec_l5Greedy.l0 k l out T)
  | 0, now, hn0, h0, h => by
    rw [show now = T by omega]
  | d + 1, now, hn0, h0, h => by
    rw [← greedy_wait l hl out ho T hT now0 hT2 d (now + 1) (by omega) (by omega) (by omega), L_shift]
    have hp : pickF l now (-1) (leftL l.length out) = -1 := pickF_none l now _ _ (fun x hx => by have := hT2 (by omega) x hx; omega)
    simp only [spec_l5Greedy.l0, if_pos (show ((out.length : Int) < (l.length : Int)) by omega), L_bind, l5Next_L l hl out (by omega) now, hp, Option.bind_some, if_pos (show (-1 : Int) < 0 by omega), wrap_id (show -9223372036854775808 ≤ now + 1 by omega) (show now + 1 ≤ 9223372036854775807 by omega)]
theorem greedy_both (l : List S89) (hg : Good l) : ∀ (d : Nat) (out : List Int) (now : Int), out.length + d = l.length → out.Nodup → (∀ x ∈ out, 0 ≤ x ∧ x < (l.length : Int)) → 0 ≤ now → now ≤ 500 + 50 * (out.length : Int) →
    ∃ o : List Int, IsOrd l.length o ∧ L (fun k => spec_l5Greedy.l0 k l out now) = some o ∧ L (fun k => impl_greedyOrder.l0 k l out now) = some o
  | 0, out, now, hd, hn, hm, h0, h1 => by
    refine ⟨out, ⟨by omega, hm, hn⟩, ?_, ?_⟩
    · rw [L_shift]
      simp only [spec_l5Greedy.l0, if_neg (show ¬ ((out.length : Int) < (l.length : Int)) by omega), L_const]
    · rw [L_shift]
      simp only [impl_greedyOrder.l0, if_neg (show ¬ ((out.length : Int) < (l.length : Int)) by omega), L_const]
  | d + 1, out, now, hd, hn, hm, h0, h1 => by
    have h8 := hg.1
    have hlt : out.length < l.length := by omega
    have hmem : ∀ x ∈ leftL l.length out, 0 ≤ x ∧ x < (l.length : Int) := fun x hx => (mem_leftL.1 hx).1
    have hrel : ∀ x ∈ leftL l.length out, 0 ≤ (jobAt l x).f2 ∧ (jobAt l x).f2 ≤ 500 := fun x hx => ⟨(hg.2 _ (jobAt_mem (hmem x hx).1 (hmem x hx).2)).r0, (hg.2 _ (jobAt_mem (hmem x hx).1 (hmem x hx).2)).r1⟩
    obtain ⟨T, hT⟩ : ∃ T, T = timeF l now 1000 (leftL l.length out) := ⟨_, rfl⟩
    have hle := (timeF_le l now (leftL l.length out) 1000).2
    rw [← hT] at hle
    obtain ⟨y, hy⟩ := List.exists_mem_of_ne_nil _ (leftL_ne hlt)
    have hyT := hle y hy
    have hyr := hrel y hy
    have hTeq : ∃ x ∈ leftL l.length out, T = max now (jobAt l x).f2 := by
      rcases timeF_eq l now (leftL l.length out) 1000 with h | h
      · rw [← hT] at h
        omega
      · rw [← hT] at h
        exact h
    obtain ⟨z, hz, hzT⟩ := hTeq
    have hzr := hrel z hz
    have hp0 : 0 ≤ pickF l T (-1) (leftL l.length out) := pickF_some l T _ _ (fun x hx => (hmem x hx).1) (.inr ⟨z, hz, by omega⟩)
    have hpm : pickF l T (-1) (leftL l.length out) ∈ leftL l.length out := by
      rcases pickF_mem l T (leftL l.length out) (-1) with h | h
      · omega
      · exact h.1
    have hp2 : (jobAt l (pickF l T (-1) (leftL l.length out))).f2 ≤ T := by
      rcases pickF_mem l T (leftL l.length out) (-1) with h | h
      · omega
      · exact h.2
    obtain ⟨p, hp⟩ : ∃ p, p = pickF l T (-1) (leftL l.length out) := ⟨_, rfl⟩
    rw [← hp] at hp0 hpm hp2
    have hpr := mem_leftL.1 hpm
    have hj := hg.2 _ (jobAt_mem hpr.1.1 hpr.1.2)
    have t0 := hj.t0
    have t1 := hj.t1
    have e1 : rd_T89 l p = jobAt l p := rfl
    have ew : wrap64 (T + (jobAt l p).f0) = T + (jobAt l p).f0 := wrap_id (by omega) (by omega)
    obtain ⟨o, ho, g1, g2⟩ := greedy_both l hg d (out ++ [p]) (T + (jobAt l p).f0) (by simp; omega) (by rw [List.nodup_append]; exact ⟨hn, by simp, fun a ha b hb => by rw [List.mem_singleton.1 hb]; exact fun e => hpr.2 (e ▸ ha)⟩) (fun x hx => by
      rcases List.mem_append.1 hx with hx | hx
      · exact hm x hx
      · rw [List.mem_singleton.1 hx]
        exact hpr.1) (by omega) (by simp; omega)
    have hwait : now < T → ∀ x ∈ leftL l.length out, T ≤ (jobAt l x).f2 := by
      intro hc x hx
      have := hle x hx
      omega
    refine ⟨o, ho, ?_, ?_⟩
    · rw [greedy_wait l (by omega) out hlt T (by omega) now hwait (T - now).toNat now (Int.le_refl _) h0 (by omega), L_shift]
      simp only [spec_l5Greedy.l0, if_pos (show ((out.length : Int) < (l.length : Int)) by omega), L_bind, l5Next_L l (by omega) out (by omega) T, ← hp, Option.bind_some, if_neg (show ¬ p < 0 by omega), if_pos (show out.length < 17592186044416 by omega), if_pos hpr.1.1, if_pos hpr.1.2, e1, ew, g1]
    · rw [L_shift]
      have i1 := greedy_l1 l out now (leftL l.length out) (leftL l.length out) [] 1000 (by have := leftL_len l.length out; simp; omega) hmem
      have i2 := greedy_l2 l out T (leftL l.length out) [] (-1) (by have := leftL_len l.length out; simp; omega) hmem (by omega)
      simp only [List.nil_append, List.length_nil, Int.natCast_zero] at i1 i2
      simp only [impl_greedyOrder.l0, if_pos (show ((out.length : Int) < (l.length : Int)) by omega), L_bind, others_L l.length out (by omega) (by omega), Option.bind_some, i1, ← hT, i2, ← hp, if_pos (show out.length < 17592186044416 by omega), if_pos hpr.1.1, if_pos hpr.1.2, e1, ew, g2]
theorem greedy_L (l : List S89) (hg : Good l) : ∃ o : List Int, IsOrd l.length o ∧ L (fun k => spec_l5Greedy.f k l) = some o ∧ L (fun k => impl_greedyOrder.f k l) = some o := by
  obtain ⟨o, h1, h2, h3⟩ := greedy_both l hg l.length [] 0 (by simp) (by simp) (by simp) (by omega) (by simp)
  exact ⟨o, h1, by simpa [spec_l5Greedy.f] using h2, by simpa [impl_greedyOrder.f] using h3⟩
/-- The place of the latest job, the first of the tied. -/
def lastF (g : Int → Int) (o : List Int) : Nat → List Int → Nat → Nat
  | b, [], _ => b
  | b, x :: r, i => if g x > g (o.getD b 0) then lastF g o i r (i + 1) else lastF g o b r (i + 1)
theorem lastF_lt (g : Int → Int) (o : List Int) : ∀ (r : List Int) (b i n : Nat), b < n → i + r.length ≤ n → lastF g o b r i < n
  | [], b, i, n, hb, _ => hb
  | x :: r, b, i, n, hb, hi => by
    simp only [List.length_cons] at hi
    rw [lastF]
    split
    · exact lastF_lt g o r i (i + 1) n (by omega) (by omega)
    · exact lastF_lt g o r b (i + 1) n hb (by omega)
/-- The first place of a block, from a place back. -/
def firstF (q : Nat → Bool) : Nat → Nat
  | 0 => 0
  | i + 1 => if q (i + 1) = true then firstF q i else i + 1
theorem firstF_le (q : Nat → Bool) : ∀ i, firstF q i ≤ i
  | 0 => Nat.le_refl _
  | i + 1 => by
    rw [firstF]
    split
    · have := firstF_le q i
      omega
    · exact Nat.le_refl _
def lateE (l : List S89) (E : List Int) (x : Int) : Int := E.getD x.toNat 0 - (jobAt l x).f3
theorem crit_loop (l : List S89) (hg : Good l) (o : List Int) (hi : IsOrd l.length o) : ∀ (r pre : List Int) (b : Nat), pre ++ r = o → b < o.length →
    L (fun k => impl_criticalPart.l0 k l o (endsP l o) (b : Int) o (o.length : Int) (pre.length : Int)) = L (fun k => impl_criticalPart.l1 k l o (endsP l o) ((lastF (lateE l (endsP l o)) o b r pre.length : Nat) : Int) ((lastF (lateE l (endsP l o)) o b r pre.length : Nat) : Int))
  | [], pre, b, hp, hb => by
    rw [L_shift]
    simp only [List.append_nil] at hp
    subst hp
    simp only [impl_criticalPart.l0, if_neg (show ¬ ((pre.length : Int) < (pre.length : Int)) by omega), lastF]
  | x :: r, pre, b, hp, hb => by
    rw [L_shift]
    have h8 := hg.1
    have hol := hi.1
    have hl : o.length = pre.length + (r.length + 1) := by rw [← hp]; simp
    have hxm : x ∈ o := by rw [← hp]; simp
    have hx := hi.2.1 x hxm
    have hym := getD_mem hb
    obtain ⟨y, hy⟩ : ∃ y, y = o.getD b 0 := ⟨_, rfl⟩
    rw [← hy] at hym
    have hyr := hi.2.1 y hym
    have e1 : rd o (pre.length : Int) = x := by rw [← hp]; exact rd_mid pre x r
    have e2 : rd o (b : Int) = y := by rw [hy]; show o.getD (b : Int).toNat 0 = _; rw [Int.toNat_natCast]
    have e3 : rd_T89 l x = jobAt l x := rfl
    have e4 : rd_T89 l y = jobAt l y := rfl
    have e5 : rd (endsP l o) x = (endsP l o).getD x.toNat 0 := rfl
    have e6 : rd (endsP l o) y = (endsP l o).getD y.toNat 0 := rfl
    have b1 := endsP_bounds hg hi _ (getD_mem (l := endsP l o) (j := x.toNat) (by rw [endsP_length]; omega))
    have b2 := endsP_bounds hg hi _ (getD_mem (l := endsP l o) (j := y.toNat) (by rw [endsP_length]; omega))
    have j1 := hg.2 _ (jobAt_mem hx.1 hx.2)
    have j2 := hg.2 _ (jobAt_mem hyr.1 hyr.2)
    have d1 := j1.d0
    have d2 := j1.d1
    have d3 := j2.d0
    have d4 := j2.d1
    simp only [impl_criticalPart.l0, if_pos (show (pre.length : Int) < (o.length : Int) by omega), if_pos (show (b : Int) < (o.length : Int) by omega), le_nat, if_true, e1, e2, if_pos hx.1, if_pos hx.2, if_pos hyr.1, if_pos hyr.2, endsP_length, e3, e4, e5, e6, wrap_mid pre x (show pre.length < 4611686018427387904 by omega),
      wrap_id (show -9223372036854775808 ≤ (endsP l o).getD x.toNat 0 - (jobAt l x).f3 by omega) (show (endsP l o).getD x.toNat 0 - (jobAt l x).f3 ≤ 9223372036854775807 by omega), wrap_id (show -9223372036854775808 ≤ (endsP l o).getD y.toNat 0 - (jobAt l y).f3 by omega) (show (endsP l o).getD y.toNat 0 - (jobAt l y).f3 ≤ 9223372036854775807 by omega), lastF, ← hy, lateE, L_ite]
    have e7 : (pre ++ [x]).length = pre.length + 1 := by simp
    have i1 := crit_loop l hg o hi r (pre ++ [x]) pre.length (by rw [← hp]; simp) (by omega)
    have i2 := crit_loop l hg o hi r (pre ++ [x]) b (by rw [← hp]; simp) hb
    rw [e7] at i1 i2 ⊢
    split
    · rw [i1]
    · rw [i2]
theorem part_loop (l : List S89) (hg : Good l) (o : List Int) (hi : IsOrd l.length o) : ∀ (r pre : List Int) (b : Nat), pre ++ r = o → b < o.length →
    L (fun k => spec_l5Part.l0 k l o (startsP l o) (endsP l o) (b : Int) (pre.length : Int)) = L (fun k => spec_l5Part.l1 k o (startsP l o) (endsP l o) ((lastF (lateE l (endsP l o)) o b r pre.length : Nat) : Int) ((lastF (lateE l (endsP l o)) o b r pre.length : Nat) : Int))
  | [], pre, b, hp, hb => by
    rw [L_shift]
    simp only [List.append_nil] at hp
    subst hp
    simp only [spec_l5Part.l0, if_neg (show ¬ ((pre.length : Int) < (pre.length : Int)) by omega), lastF]
  | x :: r, pre, b, hp, hb => by
    rw [L_shift]
    have h8 := hg.1
    have hol := hi.1
    have hl : o.length = pre.length + (r.length + 1) := by rw [← hp]; simp
    have hxm : x ∈ o := by rw [← hp]; simp
    have hx := hi.2.1 x hxm
    have hym := getD_mem hb
    obtain ⟨y, hy⟩ : ∃ y, y = o.getD b 0 := ⟨_, rfl⟩
    rw [← hy] at hym
    have hyr := hi.2.1 y hym
    have e1 : rd o (pre.length : Int) = x := by rw [← hp]; exact rd_mid pre x r
    have e2 : rd o (b : Int) = y := by rw [hy]; show o.getD (b : Int).toNat 0 = _; rw [Int.toNat_natCast]
    have e3 : rd_T89 l x = jobAt l x := rfl
    have e4 : rd_T89 l y = jobAt l y := rfl
    have e5 : rd (endsP l o) x = (endsP l o).getD x.toNat 0 := rfl
    have e6 : rd (endsP l o) y = (endsP l o).getD y.toNat 0 := rfl
    have b1 := endsP_bounds hg hi _ (getD_mem (l := endsP l o) (j := x.toNat) (by rw [endsP_length]; omega))
    have b2 := endsP_bounds hg hi _ (getD_mem (l := endsP l o) (j := y.toNat) (by rw [endsP_length]; omega))
    have j1 := hg.2 _ (jobAt_mem hx.1 hx.2)
    have j2 := hg.2 _ (jobAt_mem hyr.1 hyr.2)
    have d1 := j1.d0
    have d2 := j1.d1
    have d3 := j2.d0
    have d4 := j2.d1
    simp only [spec_l5Part.l0, if_pos (show (pre.length : Int) < (o.length : Int) by omega), if_pos (show (b : Int) < (o.length : Int) by omega), le_nat, if_true, e1, e2, if_pos hx.1, if_pos hx.2, if_pos hyr.1, if_pos hyr.2, endsP_length, e3, e4, e5, e6, wrap_mid pre x (show pre.length < 4611686018427387904 by omega),
      wrap_id (show -9223372036854775808 ≤ (endsP l o).getD x.toNat 0 - (jobAt l x).f3 by omega) (show (endsP l o).getD x.toNat 0 - (jobAt l x).f3 ≤ 9223372036854775807 by omega), wrap_id (show -9223372036854775808 ≤ (endsP l o).getD y.toNat 0 - (jobAt l y).f3 by omega) (show (endsP l o).getD y.toNat 0 - (jobAt l y).f3 ≤ 9223372036854775807 by omega), lastF, ← hy, lateE, L_ite]
    have e7 : (pre ++ [x]).length = pre.length + 1 := by simp
    have i1 := part_loop l hg o hi r (pre ++ [x]) pre.length (by rw [← hp]; simp) (by omega)
    have i2 := part_loop l hg o hi r (pre ++ [x]) b (by rw [← hp]; simp) hb
    rw [e7] at i1 i2 ⊢
    split
    · rw [i1]
    · rw [i2]
def joinB (l : List S89) (o : List Int) (i : Nat) : Bool := decide ((startsP l o).getD (o.getD i 0).toNat 0 = (endsP l o).getD (o.getD (i - 1) 0).toNat 0)
def cutL (o : List Int) (a b : Nat) : List Int := (o.take (b + 1)).drop a
theorem crit_first (l : List S89) (hg : Good l) (o : List Int) (hi : IsOrd l.length o) (z : Nat) (hz : z < o.length) : ∀ (i : Nat), i ≤ z →
    L (fun k => impl_criticalPart.l1 k l o (endsP l o) (z : Int) (i : Int)) = some (cutL o (firstF (joinB l o) i) z) ∧ L (fun k => spec_l5Part.l1 k o (startsP l o) (endsP l o) (z : Int) (i : Int)) = some (cutL o (firstF (joinB l o) i) z)
  | 0, h => by
    have h8 := hg.1
    have hol := hi.1
    have ew : wrap64 ((z : Int) + 1) = ((z + 1 : Nat) : Int) := by rw [wrap_id (by omega) (by omega)]; omega
    have hc : (cutL o 0 z).length ≤ 1048576 := by simp [cutL]; omega
    constructor
    · rw [L_shift]
      simp only [impl_criticalPart.l1, if_neg (show ¬ (((0 : Nat) : Int) > 0) by omega), le_nat, if_true, ew, if_pos (show ((0 : Nat) : Int) ≤ ((z + 1 : Nat) : Int) by omega), if_pos (show ((z + 1 : Nat) : Int) ≤ (o.length : Int) by omega), Int.toNat_natCast, L_const, firstF]
      rfl
    · rw [L_shift]
      have e : l1Own_e (cutL o 0 z) hc = l1Own_e (cutL o 0 z) hc := rfl
      have e2 : spec_l1Own.f ((o.take (z + 1)).drop 0) = some (cutL o 0 z) := l1Own_e (cutL o 0 z) hc
      simp only [spec_l5Part.l1, if_neg (show ¬ (((0 : Nat) : Int) > 0) by omega), le_nat, if_true, ew, if_pos (show ((0 : Nat) : Int) ≤ ((z + 1 : Nat) : Int) by omega), if_pos (show ((z + 1 : Nat) : Int) ≤ (o.length : Int) by omega), Int.toNat_natCast, e2, Option.bind_some, L_const, firstF]
  | i + 1, h => by
    have h8 := hg.1
    have hol := hi.1
    have ew : wrap64 ((z : Int) + 1) = ((z + 1 : Nat) : Int) := by rw [wrap_id (by omega) (by omega)]; omega
    have ei : wrap64 (((i + 1 : Nat) : Int) - 1) = (i : Int) := by rw [wrap_id (by omega) (by omega)]; omega
    have hc : (cutL o (i + 1) z).length ≤ 1048576 := by simp [cutL]; omega
    have hxm := getD_mem (l := o) (j := i + 1) (by omega)
    have hym := getD_mem (l := o) (j := i) (by omega)
    obtain ⟨x, hx⟩ : ∃ x, x = o.getD (i + 1) 0 := ⟨_, rfl⟩
    obtain ⟨y, hy⟩ : ∃ y, y = o.getD i 0 := ⟨_, rfl⟩
    rw [← hx] at hxm
    rw [← hy] at hym
    have hxr := hi.2.1 x hxm
    have hyr := hi.2.1 y hym
    have e1 : rd o ((i + 1 : Nat) : Int) = x := by rw [hx]; show o.getD ((i + 1 : Nat) : Int).toNat 0 = _; rw [Int.toNat_natCast]
    have e2 : rd o (i : Int) = y := by rw [hy]; show o.getD (i : Int).toNat 0 = _; rw [Int.toNat_natCast]
    have e3 : rd_T89 l x = jobAt l x := rfl
    have e5 : rd (endsP l o) x = (endsP l o).getD x.toNat 0 := rfl
    have e6 : rd (endsP l o) y = (endsP l o).getD y.toNat 0 := rfl
    have e8 : rd (startsP l o) x = (startsP l o).getD x.toNat 0 := rfl
    have hs := endsP_starts hi x.toNat (by omega)
    have b1 := endsP_bounds hg hi _ (getD_mem (l := endsP l o) (j := x.toNat) (by rw [endsP_length]; omega))
    have j1 := hg.2 _ (jobAt_mem hxr.1 hxr.2)
    have t0 := j1.t0
    have t1 := j1.t1
    have e9 : l.getD x.toNat z89 = jobAt l x := rfl
    rw [e9] at hs
    have e10 : wrap64 ((endsP l o).getD x.toNat 0 - (jobAt l x).f0) = (startsP l o).getD x.toNat 0 := by
      rw [wrap_id (by omega) (by omega)]
      omega
    obtain ⟨g1, g2⟩ := crit_first l hg o hi z hz i (by omega)
    have ej : joinB l o (i + 1) = decide ((startsP l o).getD x.toNat 0 = (endsP l o).getD y.toNat 0) := by
      unfold joinB
      rw [← hx, Nat.add_sub_cancel, ← hy]
    constructor
    · rw [L_shift]
      simp only [impl_criticalPart.l1, if_pos (show (((i + 1 : Nat) : Int) > 0) by omega), le_nat, if_true, e1, ei, e2, if_pos (show ((i + 1 : Nat) : Int) < (o.length : Int) by omega), if_pos (show (i : Int) < (o.length : Int) by omega), if_pos hxr.1, if_pos hxr.2, if_pos hyr.1, if_pos hyr.2, endsP_length, e3, e5, e6, e10, ew, if_pos (show ((i + 1 : Nat) : Int) ≤ ((z + 1 : Nat) : Int) by omega), if_pos (show ((z + 1 : Nat) : Int) ≤ (o.length : Int) by omega), Int.toNat_natCast, L_ite, L_const, g1, firstF, ej, decide_eq_true_eq]
      split <;> rfl
    · rw [L_shift]
      have e12 : spec_l1Own.f ((o.take (z + 1)).drop (i + 1)) = some (cutL o (i + 1) z) := l1Own_e (cutL o (i + 1) z) hc
      simp only [spec_l5Part.l1, if_pos (show (((i + 1 : Nat) : Int) > 0) by omega), le_nat, if_true, e1, ei, e2, if_pos (show ((i + 1 : Nat) : Int) < (o.length : Int) by omega), if_pos (show (i : Int) < (o.length : Int) by omega), if_pos hxr.1, if_pos hxr.2, if_pos hyr.1, if_pos hyr.2, endsP_length, startsP_length, e8, e6, ew, if_pos (show ((i + 1 : Nat) : Int) ≤ ((z + 1 : Nat) : Int) by omega), if_pos (show ((z + 1 : Nat) : Int) ≤ (o.length : Int) by omega), Int.toNat_natCast, e12, Option.bind_some, L_ite, L_const, g2, firstF, ej, decide_eq_true_eq]
      split <;> rfl
/-- Both sides find the same part, which is not empty. -/
theorem crit_L (l : List S89) (hg : Good l) (hn : 0 < l.length) : ∃ p : List Int, p ≠ [] ∧ p.length ≤ 8 ∧ (∀ x ∈ p, 0 ≤ x ∧ x < (l.length : Int)) ∧ L (fun k => spec_l5Part.f k l) = some p ∧ L (fun k => impl_criticalPart.f k l) = some p := by
  have h8 := hg.1
  obtain ⟨o, hi, h1, h2⟩ := greedy_L l hg
  have hol := hi.1
  obtain ⟨x0, o', ho'⟩ : ∃ x0 o', o = x0 :: o' := by
    cases o with
    | nil => simp at hol; omega
    | cons a b => exact ⟨a, b, rfl⟩
  have i1 := crit_loop l hg o hi o [] 0 rfl (by omega)
  have i2 := part_loop l hg o hi o' [x0] 0 (by rw [ho']; rfl) (by omega)
  obtain ⟨z, hz⟩ : ∃ z, z = lastF (lateE l (endsP l o)) o 0 o' 1 := ⟨_, rfl⟩
  have hz2 : lastF (lateE l (endsP l o)) o 0 o 0 = z := by
    rw [hz]
    conv => lhs; arg 4; rw [ho']
    rw [lastF]
    have : o.getD 0 0 = x0 := by rw [ho']; rfl
    rw [this, if_neg (by omega)]
  have hzl : z < o.length := by
    rw [hz]
    exact lastF_lt _ _ _ _ _ _ (by omega) (by rw [ho']; simp; omega)
  simp only [List.length_nil, Int.natCast_zero, hz2] at i1
  simp only [List.length_singleton, Int.natCast_zero, ← hz] at i2
  obtain ⟨g1, g2⟩ := crit_first l hg o hi z hzl z (Nat.le_refl _)
  have hf := firstF_le (joinB l o) z
  refine ⟨cutL o (firstF (joinB l o) z) z, ?_, ?_, ?_, ?_, ?_⟩
  · intro hc
    have := congrArg List.length hc
    simp only [cutL, List.length_drop, List.length_take, List.length_nil] at this
    omega
  · simp only [cutL, List.length_drop, List.length_take]
    omega
  · intro x hx
    exact hi.2.1 x (List.mem_of_mem_take (List.mem_of_mem_drop hx))
  · simp only [spec_l5Part.f, L_bind, h1, Option.bind_some, l2Starts_L l o hg hi, l2Ends_L l o hg hi]
    have := i2.trans g2
    simpa using this
  · simp only [impl_criticalPart.f, L_bind, h2, Option.bind_some, endsOf_L l o hg hi]
    have := i1.trans g1
    simpa using this

theorem CriticalPart_both (l : List S89) (h : l.length ≤ 1048576) :
    ∃ (p : List Int) (ok : Bool), L (fun k => spec_CriticalPart.f k l) = some (p, ok) ∧ L (fun k => impl_CriticalPart.f k l) = some (p, ok) ∧ p.length ≤ 8 := by
  simp only [spec_CriticalPart.f, impl_CriticalPart.f, L_bind, L_ite, L_const, l2Good_L l (by omega), IsJobs_L l (by omega), Option.bind_some]
  cases hg : goodB l with
  | false => exact ⟨[], false, by simp, by simp, by simp⟩
  | true =>
    by_cases hn : (l.length : Int) = 0
    · exact ⟨[], false, by simp [hn], by simp [hn], by simp⟩
    · have hg' := goodB_iff.1 hg
      obtain ⟨p, _, h2, _, h3, h4⟩ := crit_L l hg' (by omega)
      have hne : l ≠ [] := by
        intro e
        subst e
        simp at hn
      refine ⟨p, true, ?_, ?_, h2⟩
      · simp [hn, hne, h3]
      · simp [hn, hne, h4]

theorem FnExactCriticalPart : laws_FnExactCriticalPart.Pure := by
  intro l h1 _
  have e1 : maxLen = 9223372036854775807 := rfl
  refine rounds_of_L ?_
  unfold laws_FnExactCriticalPart.f
  rw [szJobS_e l (by omega)]
  by_cases hl : l.length ≤ 1048576
  · have hl2 : (l.map toJobP).length ≤ 1048576 := by simpa using hl
    obtain ⟨R, ok, hs, hi, hR8⟩ := CriticalPart_both (l.map toJobP) hl2
    have hR : R.length ≤ 1048576 := by omega
    rw [if_pos hl]
    simp only [Option.bind_some]
    rw [L_ite, if_neg (by omega)]
    (rw [L_bind, (toJobS_L l hl), Option.bind_some]; try dsimp only)
    (rw [L_bind, hs, Option.bind_some]; try dsimp only)
    (rw [L_bind, (toJobS_L l hl), Option.bind_some]; try dsimp only)
    (rw [L_bind, hi, Option.bind_some]; try dsimp only)
    (rw [L_bind, (eqIntS_L R hR), Option.bind_some]; try dsimp only)
    rw [L_ite, if_pos rfl]
    rw [L_ite, if_pos rfl]
    (rw [L_bind, (toJobS_L l hl), Option.bind_some]; try dsimp only)
    (rw [L_bind, (eqJobS_L _ hl2), Option.bind_some]; try dsimp only)
    rw [L_ite, if_pos rfl]
    (rw [L_bind, (markJobS_L (l.map toJobP) 1 hl2 (by omega) (by omega)), Option.bind_some]; try dsimp only)
    rw [L_ite, if_neg (by omega)]
    (rw [L_bind, (eqIntS_L R hR), Option.bind_some]; try dsimp only)
    rw [L_ite, if_pos rfl]
    rw [L_ite, if_pos rfl]
    (rw [L_bind, (markIntS_L R 1 hR (by omega) (by omega)), Option.bind_some]; try dsimp only)
    (rw [L_bind, (heldIntS_L R 1 hR (by omega) (by omega)), Option.bind_some]; try dsimp only)
    rw [L_ite, if_neg (by omega)]
    rw [L_ite, if_pos rfl]
    (rw [L_bind, (toJobS_L l hl), Option.bind_some]; try dsimp only)
    (rw [L_bind, hi, Option.bind_some]; try dsimp only)
    (rw [L_bind, (eqIntS_L R hR), Option.bind_some]; try dsimp only)
    rw [L_ite, if_pos rfl]
    rw [L_ite, if_pos rfl]
    (rw [L_bind, (heldIntS_L R 1 hR (by omega) (by omega)), Option.bind_some]; try dsimp only)
    rw [L_ite, if_neg (by omega)]
    rw [L_ite, if_pos rfl]
    rw [L_const]
  · rw [if_neg hl]
    simp only [Option.bind_some]
    rw [L_ite, if_pos (show (-1 : Int) < 0 by decide), L_const]

end Go.Proofs.Ytgpnophjbibhhaa.Pure
