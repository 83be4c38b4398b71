/- The program's BlocksOf answers what the reference's answers, for all lists of jobs and orders. -/
import Derived.Test.YtgpnophjbibhhaaXSFnExactBlocksOf
import Derived.Test.YtgpnophjbibhhaaXLim
namespace Go.Proofs.Ytgpnophjbibhhaa.Pure
open Go.RowKit Go.Proofs.YtgpnophjbibhhaaW.PrintWords Go.Proofs.YtgpnophjbibhhaaW.PrintLast Go.Proofs.YtgpnophjbibhhaaW.PrintMore Go.Proofs.Ytgpnophjbibhhaa.X Go.Proofs.Ytgpnophjbibhhaa.XRow Go.Proofs.Ytgpnophjbibhhaa.XLim
set_option linter.unusedVariables false
set_option linter.unusedSimpArgs false
instance : ∀ a0 a1, Mono (fun k => impl_BlocksOf.f k a0 a1) := fun a0 a1 => ⟨⟨impl_BlocksOf.mono a0 a1⟩⟩
instance : ∀ a0, Mono (fun k => impl_IsJobs.f k a0) := fun a0 => ⟨⟨impl_IsJobs.mono a0⟩⟩
instance : ∀ a0 a1, Mono (fun k => impl_areDifferent.f k a0 a1) := fun a0 a1 => ⟨⟨impl_areDifferent.mono a0 a1⟩⟩
instance : ∀ a0 a1, Mono (fun k => impl_blocksOf.f k a0 a1) := fun a0 a1 => ⟨⟨impl_blocksOf.mono a0 a1⟩⟩
instance : ∀ a0 a1, Mono (fun k => impl_endsOf.f k a0 a1) := fun a0 a1 => ⟨⟨impl_endsOf.mono a0 a1⟩⟩
instance : ∀ a0 a1, Mono (fun k => impl_has.f k a0 a1) := fun a0 a1 => ⟨⟨impl_has.mono a0 a1⟩⟩
instance : ∀ a0 a1, Mono (fun k => impl_isOrder.f k a0 a1) := fun a0 a1 => ⟨⟨impl_isOrder.mono a0 a1⟩⟩
instance : ∀ a0 a1, Mono (fun k => impl_isScheduled.f k a0 a1) := fun a0 a1 => ⟨⟨impl_isScheduled.mono a0 a1⟩⟩
instance : ∀ l0 l1, Mono (fun k => laws_FnExactBlocksOf.f k l0 l1) := fun l0 l1 => ⟨⟨laws_FnExactBlocksOf.mono l0 l1⟩⟩
instance : ∀ a0 a1, Mono (fun k => laws_eqIntS.f k a0 a1) := fun a0 a1 => ⟨⟨laws_eqIntS.mono a0 a1⟩⟩
instance : ∀ a0 a1, Mono (fun k => laws_eqIntSS.f k a0 a1) := fun a0 a1 => ⟨⟨laws_eqIntSS.mono a0 a1⟩⟩
instance : ∀ a0 a1, Mono (fun k => laws_eqJobS.f k a0 a1) := fun a0 a1 => ⟨⟨laws_eqJobS.mono a0 a1⟩⟩
instance : ∀ a0 a1, Mono (fun k => laws_heldIntS.f k a0 a1) := fun a0 a1 => ⟨⟨laws_heldIntS.mono a0 a1⟩⟩
instance : ∀ a0 a1, Mono (fun k => laws_heldIntSS.f k a0 a1) := fun a0 a1 => ⟨⟨laws_heldIntSS.mono a0 a1⟩⟩
instance : ∀ a0 a1, Mono (fun k => laws_markIntS.f k a0 a1) := fun a0 a1 => ⟨⟨laws_markIntS.mono a0 a1⟩⟩
instance : ∀ a0 a1, Mono (fun k => laws_markIntSS.f k a0 a1) := fun a0 a1 => ⟨⟨laws_markIntSS.mono a0 a1⟩⟩
instance : ∀ a0 a1, Mono (fun k => laws_markJobS.f k a0 a1) := fun a0 a1 => ⟨⟨laws_markJobS.mono a0 a1⟩⟩
instance : ∀ a0, Mono (fun k => laws_toIntS.f k a0) := fun a0 => ⟨⟨laws_toIntS.mono a0⟩⟩
instance : ∀ a0, Mono (fun k => laws_toJobS.f k a0) := fun a0 => ⟨⟨laws_toJobS.mono a0⟩⟩
instance : ∀ a0 a1, Mono (fun k => spec_BlocksOf.f k a0 a1) := fun a0 a1 => ⟨⟨spec_BlocksOf.mono a0 a1⟩⟩
instance : ∀ a0 a1, Mono (fun k => spec_l1Has.f k a0 a1) := fun a0 a1 => ⟨⟨spec_l1Has.mono a0 a1⟩⟩
instance : ∀ a0 a1, Mono (fun k => spec_l2Ends.f k a0 a1) := fun a0 a1 => ⟨⟨spec_l2Ends.mono a0 a1⟩⟩
instance : ∀ a0, Mono (fun k => spec_l2Good.f k a0) := fun a0 => ⟨⟨spec_l2Good.mono a0⟩⟩
instance : ∀ a0 a1, Mono (fun k => spec_l2Order.f k a0 a1) := fun a0 a1 => ⟨⟨spec_l2Order.mono a0 a1⟩⟩
instance : ∀ a0 a1, Mono (fun k => spec_l2Starts.f k a0 a1) := fun a0 a1 => ⟨⟨spec_l2Starts.mono a0 a1⟩⟩
instance : ∀ a0 a1, Mono (fun k => spec_l2Two.f k a0 a1) := fun a0 a1 => ⟨⟨spec_l2Two.mono a0 a1⟩⟩
theorem lt_mid {α : Type} (pre : List α) (x : α) (r : List α) : ((pre.length : Int) < ((pre ++ x :: r).length : Int)) = True := by
  simp only [List.length_append, List.length_cons]
  exact eq_true (by omega)
theorem not_lt_end {α : Type} (pre : List α) : ((pre.length : Int) < ((pre ++ []).length : Int)) = False := by
  simp
theorem le_nat (n : Nat) : (0 ≤ (n : Int)) = True := eq_true (by omega)
theorem getD_mid {α : Type} (pre : List α) (x : α) (r : List α) (d : α) : (pre ++ x :: r).getD (pre.length : Int).toNat d = x := by
  simp [List.getD_eq_getElem?_getD]
theorem rd_mid (pre : List Int) (x : Int) (r : List Int) : rd (pre ++ x :: r) (pre.length : Int) = x := getD_mid pre x r 0
theorem wrap_mid {α : Type} (pre : List α) (x : α) (h : pre.length < 4611686018427387904) : wrap64 ((pre.length : Int) + 1) = ((pre ++ [x]).length : Int) := by
  rw [wrap_id (by omega) (by omega)]
  simp
theorem set_mid {α β : Type} (a : List α) (y v : α) (b : List α) (pre : List β) (h : pre.length = a.length) : (a ++ y :: b).set (pre.length : Int).toNat v = a ++ v :: b := by
  rw [Int.toNat_natCast, h, List.set_append_right _ _ (Nat.le_refl _)]
  simp
theorem rep_succ {α : Type} (x : α) (r : List α) {β : Type} (z : β) : List.replicate (x :: r).length z = z :: List.replicate r.length z := rfl
theorem app_cons {α : Type} (pre : List α) (x : α) (r : List α) : pre ++ x :: r = (pre ++ [x]) ++ r := by simp
theorem getD_set (out : List Int) (i j : Nat) (v : Int) : (out.set i v).getD j 0 = if i = j ∧ j < out.length then v else out.getD j 0 := by
  simp only [List.getD_eq_getElem?_getD, List.getElem?_set]
  by_cases h : i = j
  · subst h
    by_cases h2 : i < out.length
    · simp [h2]
    · simp [h2]
  · simp [h]
theorem ext_getD {a b : List Int} (hl : a.length = b.length) (h : ∀ j : Nat, j < a.length → a.getD j 0 = b.getD j 0) : a = b := by
  apply List.ext_getElem hl
  intro j h1 h2
  have := h j h1
  rwa [List.getD_eq_getElem?_getD, List.getD_eq_getElem?_getD, List.getElem?_eq_getElem h1, List.getElem?_eq_getElem h2] at this
theorem getD_mem {l : List Int} {j : Nat} (hj : j < l.length) : l.getD j 0 ∈ l := by
  rw [List.getD_eq_getElem?_getD, List.getElem?_eq_getElem hj]
  exact List.getElem_mem _
theorem toIntS_l (r : List Int) : ∀ pre : List Int, (pre ++ r).length < 4611686018427387904 → L (fun k => laws_toIntS.l0 k (pre ++ r) (pre ++ List.replicate r.length 0) (pre.length : Int)) = some (pre ++ r) := by
  induction r with
  | nil =>
    intro pre hb
    rw [L_shift]
    simp only [laws_toIntS.l0, not_lt_end, if_false, L_const, List.length_nil, List.replicate_zero]
  | cons x r ih =>
    intro pre hb
    rw [L_shift]
    have hl : pre.length < 4611686018427387904 := by simp at hb; omega
    simp only [laws_toIntS.l0, lt_mid, le_nat, if_true, rep_succ, rd_mid, wrap_mid pre x hl, set_mid pre _ x _ pre rfl]
    rw [app_cons pre x r, app_cons pre x (List.replicate _ _)]
    exact ih (pre ++ [x]) (by simpa using hb)
theorem toIntS_L (l : List Int) (h : l.length ≤ 1048576) : L (fun k => laws_toIntS.f k l) = some l := by
  simp only [laws_toIntS.f, le_nat, if_true, Int.toNat_natCast, if_pos (show l.length ≤ 35184372088832 by omega)]
  exact toIntS_l l [] (by simp; omega)
theorem eqIntS_l (r : List Int) : ∀ pre : List Int, (pre ++ r).length < 4611686018427387904 → L (fun k => laws_eqIntS.l0 k (pre ++ r) (pre ++ r) (pre.length : Int)) = some true := by
  induction r with
  | nil =>
    intro pre hb
    rw [L_shift]
    simp only [laws_eqIntS.l0, not_lt_end, if_false, L_const]
  | cons x r ih =>
    intro pre hb
    rw [L_shift]
    have hl : pre.length < 4611686018427387904 := by simp at hb; omega
    simp only [laws_eqIntS.l0, lt_mid, le_nat, if_true, rd_mid, wrap_mid pre x hl]
    rw [app_cons pre x r]
    exact ih (pre ++ [x]) (by simpa using hb)
theorem eqIntS_L (l : List Int) (h : l.length ≤ 1048576) : L (fun k => laws_eqIntS.f k l l) = some true := by
  simp only [laws_eqIntS.f, if_true]
  exact eqIntS_l l [] (by simp; omega)
def toJobP (x : S96) : S89 := ⟨x.f0, x.f1, x.f2, x.f3⟩
theorem toJobS_l (r : List S96) : ∀ pre : List S96, (pre ++ r).length < 4611686018427387904 → L (fun k => laws_toJobS.l0 k (pre ++ r) (pre.map toJobP ++ List.replicate r.length z89) (pre.length : Int)) = some ((pre ++ r).map toJobP) := by
  induction r with
  | nil =>
    intro pre hb
    rw [L_shift]
    simp only [laws_toJobS.l0, not_lt_end, if_false, L_const, List.length_nil, List.replicate_zero]
    simp
  | cons x r ih =>
    intro pre hb
    rw [L_shift]
    have hl : pre.length < 4611686018427387904 := by simp at hb; omega
    have e : rd_T96 (pre ++ x :: r) (pre.length : Int) = x := getD_mid pre x r _
    have e2 : ((pre.length : Int) < ((pre.map toJobP ++ z89 :: List.replicate r.length z89).length : Int)) = True := by
      simp only [List.length_append, List.length_cons, List.length_map]
      exact eq_true (by omega)
    simp only [laws_toJobS.l0, laws_toJob.f, lt_mid, le_nat, if_true, rep_succ, e, e2, wrap_mid pre x hl, Option.bind_some, set_mid (pre.map toJobP) _ _ _ pre (by simp)]
    have := ih (pre ++ [x]) (by simpa using hb)
    simpa [toJobP] using this
theorem toJobS_L (l : List S96) (h : l.length ≤ 1048576) : L (fun k => laws_toJobS.f k l) = some (l.map toJobP) := by
  simp only [laws_toJobS.f, le_nat, if_true, Int.toNat_natCast, if_pos (show l.length ≤ 8796093022208 by omega)]
  exact toJobS_l l [] (by simp; omega)
theorem eqJobS_l (r : List S89) : ∀ pre : List S89, (pre ++ r).length < 4611686018427387904 → L (fun k => laws_eqJobS.l0 k (pre ++ r) (pre ++ r) (pre.length : Int)) = some true := by
  induction r with
  | nil =>
    intro pre hb
    rw [L_shift]
    simp only [laws_eqJobS.l0, not_lt_end, if_false, L_const]
  | cons x r ih =>
    intro pre hb
    rw [L_shift]
    have hl : pre.length < 4611686018427387904 := by simp at hb; omega
    simp only [laws_eqJobS.l0, laws_eqJob.f, lt_mid, le_nat, if_true, wrap_mid pre x hl, Option.bind_some]
    rw [app_cons pre x r]
    exact ih (pre ++ [x]) (by simpa using hb)
theorem eqJobS_L (l : List S89) (h : l.length ≤ 1048576) : L (fun k => laws_eqJobS.f k l l) = some true := by
  simp only [laws_eqJobS.f, if_true]
  exact eqJobS_l l [] (by simp; omega)
theorem szJobS_e (l : List S96) (h : l.length ≤ 9223372036854775807) : laws_szJobS.f l 1048576 = if l.length ≤ 1048576 then some (1048576 - (l.length : Int)) else some (-1) := by
  unfold laws_szJobS.f
  have e : wrap64 (1048576 - (l.length : Int)) = 1048576 - (l.length : Int) := wrap_id (by omega) (by omega)
  rw [e]
  by_cases h2 : l.length ≤ 1048576
  · rw [if_neg (by omega), if_pos h2]
  · rw [if_pos (by omega), if_neg h2]
/-- The numbers from v on, as many as a list has. -/
def countI {α : Type} : Int → List α → List Int
  | _, [] => []
  | v, _ :: r => v :: countI (v + 1) r
theorem markIntS_l (r : List Int) : ∀ (pre : List Int) (v : Int), (pre ++ r).length < 4611686018427387904 → 0 ≤ v → v + r.length < 9223372036854775807 → L (fun k => laws_markIntS.l0 k (pre ++ r) v (pre.length : Int)) = some (v + r.length, pre ++ countI v r) := by
  induction r with
  | nil =>
    intro pre v hb h0 h1
    rw [L_shift]
    simp only [laws_markIntS.l0, not_lt_end, if_false, L_const]
    simp [countI]
  | cons x r ih =>
    intro pre v hb h0 h1
    rw [L_shift]
    have hl : pre.length < 4611686018427387904 := by simp at hb; omega
    simp only [List.length_cons] at h1
    simp only [laws_markIntS.l0, lt_mid, le_nat, if_true, wrap_mid pre v hl, set_mid pre x v r pre rfl, wrap_id (show -9223372036854775808 ≤ v + 1 by omega) (show v + 1 ≤ 9223372036854775807 by omega)]
    rw [app_cons pre v r, ih (pre ++ [v]) (v + 1) (by simpa using hb) (by omega) (by omega)]
    simp only [countI, List.length_cons, Option.some.injEq, Prod.mk.injEq]
    exact ⟨by omega, by simp⟩
theorem markIntS_L (l : List Int) (v : Int) (h : l.length ≤ 1048576) (h0 : 0 ≤ v) (h1 : v ≤ 1000000000) : L (fun k => laws_markIntS.f k l v) = some (v + l.length, countI v l) := by
  have := markIntS_l l [] v (by simp; omega) h0 (by omega)
  simpa [laws_markIntS.f] using this
theorem heldIntS_l {α : Type} (r : List α) : ∀ (pre : List Int) (v : Int), (pre.length + r.length) < 4611686018427387904 → 0 ≤ v → v + r.length < 9223372036854775807 → L (fun k => laws_heldIntS.l0 k (pre ++ countI v r) v (pre.length : Int)) = some (v + r.length) := by
  induction r with
  | nil =>
    intro pre v hb h0 h1
    rw [L_shift]
    simp only [laws_heldIntS.l0, countI, not_lt_end, if_false, L_const]
    simp
  | cons x r ih =>
    intro pre v hb h0 h1
    rw [L_shift]
    simp only [List.length_cons] at h1 hb
    have hl : pre.length < 4611686018427387904 := by omega
    simp only [laws_heldIntS.l0, countI, lt_mid, le_nat, if_true, rd_mid, wrap_mid pre v hl, wrap_id (show -9223372036854775808 ≤ v + 1 by omega) (show v + 1 ≤ 9223372036854775807 by omega)]
    rw [app_cons pre v (countI _ r), ih (pre ++ [v]) (v + 1) (by simp; omega) (by omega) (by omega)]
    simp only [List.length_cons, Option.some.injEq]
    omega
theorem heldIntS_L {α : Type} (l : List α) (v : Int) (h : l.length ≤ 1048576) (h0 : 0 ≤ v) (h1 : v ≤ 1000000000) : L (fun k => laws_heldIntS.f k (countI v l) v) = some (v + l.length) := by
  have := heldIntS_l l [] v (by simp; omega) h0 (by omega)
  simpa [laws_heldIntS.f] using this
def countJ : Int → List S89 → List S89
  | _, [] => []
  | v, _ :: r => ⟨v, v + 1, v + 1 + 1, v + 1 + 1 + 1⟩ :: countJ (v + 1 + 1 + 1 + 1) r
theorem markJobS_l (r : List S89) : ∀ (pre : List S89) (v : Int), (pre ++ r).length < 4611686018427387904 → 0 ≤ v → v + 4 * r.length < 9223372036854775807 → L (fun k => laws_markJobS.l0 k (pre ++ r) v (pre.length : Int)) = some (v + 4 * r.length, pre ++ countJ v r) := by
  induction r with
  | nil =>
    intro pre v hb h0 h1
    rw [L_shift]
    simp only [laws_markJobS.l0, not_lt_end, if_false, L_const]
    simp [countJ]
  | cons x r ih =>
    intro pre v hb h0 h1
    rw [L_shift]
    have hl : pre.length < 4611686018427387904 := by simp at hb; omega
    simp only [List.length_cons] at h1
    have e : ∀ y, rd_T89 (pre ++ y :: r) (pre.length : Int) = y := fun y => getD_mid pre y r _
    have es : ∀ y z, (pre ++ y :: r).set (pre.length : Int).toNat z = pre ++ z :: r := fun y z => set_mid pre y z r pre rfl
    simp only [laws_markJobS.l0, lt_mid, le_nat, if_true, Option.bind_some, e, es, wrap_mid pre x hl, wrap_id (show -9223372036854775808 ≤ v + 1 by omega) (show v + 1 ≤ 9223372036854775807 by omega), wrap_id (show -9223372036854775808 ≤ v + 1 + 1 by omega) (show v + 1 + 1 ≤ 9223372036854775807 by omega), wrap_id (show -9223372036854775808 ≤ v + 1 + 1 + 1 by omega) (show v + 1 + 1 + 1 ≤ 9223372036854775807 by omega), wrap_id (show -9223372036854775808 ≤ v + 1 + 1 + 1 + 1 by omega) (show v + 1 + 1 + 1 + 1 ≤ 9223372036854775807 by omega)]
    have := ih (pre ++ [⟨v, v + 1, v + 1 + 1, v + 1 + 1 + 1⟩]) (v + 1 + 1 + 1 + 1) (by simpa using hb) (by omega) (by omega)
    simp only [List.append_assoc, List.cons_append, List.nil_append, List.length_append, List.length_cons, List.length_nil] at this ⊢
    rw [this]
    simp only [countJ, Option.some.injEq, Prod.mk.injEq]
    exact ⟨by omega, by first | rfl | trivial⟩
theorem markJobS_L (l : List S89) (v : Int) (h : l.length ≤ 1048576) (h0 : 0 ≤ v) (h1 : v ≤ 1000000000) : L (fun k => laws_markJobS.f k l v) = some (v + 4 * l.length, countJ v l) := by
  have := markJobS_l l [] v (by simp; omega) h0 (by omega)
  simpa [laws_markJobS.f] using this
theorem ite_and (b c : Bool) : (if b = true then some c else some false) = some (b && c) := by cases b <;> rfl
theorem ite_not_and (b c : Bool) : (if b = true then some false else some c) = some (!b && c) := by cases b <;> rfl
theorem bind_self {α : Type} (o : Option α) : (o.bind fun t => some t) = o := by cases o <;> rfl
def inB (a lo hi : Int) : Bool := decide (lo ≤ a) && decide (a ≤ hi)
theorem inB_iff {a lo hi : Int} : inB a lo hi = true ↔ lo ≤ a ∧ a ≤ hi := by simp [inB]
theorem within_e (a lo hi : Int) : impl_within.f a lo hi = some (inB a lo hi) := by
  unfold impl_within.f inB
  by_cases h : lo ≤ a <;> simp [h]
theorem l1In_e (a lo hi : Int) : spec_l1In.f a lo hi = some (inB a lo hi) := by
  unfold spec_l1In.f inB
  by_cases h : lo ≤ a <;> simp [h]
theorem mx_e (a b : Int) : mx a b = max a b := by
  unfold mx
  omega
theorem l1Most_e (a b : Int) : spec_l1Most.f a b = some (max a b) := by
  unfold spec_l1Most.f
  by_cases h : a > b
  · rw [if_pos h]
    congr 1
    omega
  · rw [if_neg h]
    congr 1
    omega
theorem l1Has_l (x : Int) (r : List Int) : ∀ pre : List Int, (pre ++ r).length < 4611686018427387904 → L (fun k => spec_l1Has.l0 k (pre ++ r) x (pre.length : Int)) = some (decide (x ∈ r)) := by
  induction r with
  | nil =>
    intro pre hb
    rw [L_shift]
    simp only [spec_l1Has.l0, not_lt_end, if_false, L_const]
    simp
  | cons y r ih =>
    intro pre hb
    rw [L_shift]
    have hl : pre.length < 4611686018427387904 := by simp at hb; omega
    simp only [spec_l1Has.l0, lt_mid, le_nat, if_true, rd_mid, wrap_mid pre y hl, L_ite, L_const]
    rw [app_cons pre y r, ih (pre ++ [y]) (by simpa using hb)]
    by_cases h : y = x
    · subst h
      simp
    · rw [if_neg h]
      have : ¬ x = y := fun e => h e.symm
      simp [this]
theorem l1Has_L (l : List Int) (x : Int) (h : l.length < 4611686018427387904) : L (fun k => spec_l1Has.f k l x) = some (decide (x ∈ l)) := l1Has_l x l [] (by simpa using h)
theorem has_l (x : Int) (r : List Int) : ∀ pre : List Int, (pre ++ r).length < 4611686018427387904 → L (fun k => impl_has.l0 k x (pre ++ r) ((pre ++ r).length : Int) (pre.length : Int)) = some (decide (x ∈ r)) := by
  induction r with
  | nil =>
    intro pre hb
    rw [L_shift]
    simp only [impl_has.l0, not_lt_end, if_false, L_const]
    simp
  | cons y r ih =>
    intro pre hb
    rw [L_shift]
    have hl : pre.length < 4611686018427387904 := by simp at hb; omega
    simp only [impl_has.l0, lt_mid, le_nat, if_true, rd_mid, wrap_mid pre y hl, L_ite, L_const]
    rw [app_cons pre y r, ih (pre ++ [y]) (by simpa using hb)]
    by_cases h : y = x
    · subst h
      simp
    · rw [if_neg h]
      have : ¬ x = y := fun e => h e.symm
      simp [this]
theorem has_L (l : List Int) (x : Int) (h : l.length < 4611686018427387904) : L (fun k => impl_has.f k l x) = some (decide (x ∈ l)) := has_l x l [] (by simpa using h)
theorem perm_of : ∀ (a b : List Int), a.Nodup → (∀ x ∈ a, x ∈ b) → b.length ≤ a.length → a.Perm b
  | [], b, _, _, hl => by
    have : b = [] := List.length_eq_zero_iff.1 (by simpa using hl)
    rw [this]
  | x :: a, b, hn, hs, hl => by
    have hx : x ∈ b := hs x List.mem_cons_self
    have hn' := List.nodup_cons.1 hn
    have hp := List.perm_cons_erase hx
    have h1 : (b.erase x).length ≤ a.length := by
      have := List.length_erase_of_mem hx
      simp at hl
      omega
    have h2 : ∀ y ∈ a, y ∈ b.erase x := fun y hy => (List.mem_erase_of_ne (by rintro rfl; exact hn'.1 hy)).2 (hs y (List.mem_cons_of_mem _ hy))
    exact ((perm_of a (b.erase x) hn'.2 h2 h1).cons x).trans hp.symm
def numsTo (n : Nat) : List Int := (List.range n).map (fun i : Nat => (i : Int))
theorem numsTo_length (n : Nat) : (numsTo n).length = n := by simp [numsTo]
theorem mem_numsTo {n : Nat} {x : Int} : x ∈ numsTo n ↔ 0 ≤ x ∧ x < n := by
  simp only [numsTo, List.mem_map, List.mem_range]
  constructor
  · rintro ⟨i, hi, rfl⟩
    omega
  · intro h
    exact ⟨x.toNat, by omega, by omega⟩
theorem numsTo_nodup (n : Nat) : (numsTo n).Nodup := by
  unfold numsTo
  exact List.Pairwise.map _ (fun a b h => by omega) List.nodup_range
/-- Different numbers of n things, none of them in pre. -/
def diffB (n : Int) : List Int → List Int → Bool
  | _, [] => true
  | pre, x :: r => inB x 0 (n - 1) && (!decide (x ∈ pre) && diffB n (pre ++ [x]) r)
theorem diffB_iff (n : Int) : ∀ (r pre : List Int), diffB n pre r = true ↔ (∀ x ∈ r, 0 ≤ x ∧ x < n) ∧ r.Nodup ∧ ∀ x ∈ r, x ∉ pre
  | [], pre => by simp [diffB]
  | x :: r, pre => by
    rw [diffB, Bool.and_eq_true, Bool.and_eq_true, inB_iff, diffB_iff n r (pre ++ [x])]
    simp only [Bool.not_eq_true', decide_eq_false_iff_not, List.mem_cons, List.nodup_cons, List.mem_append, List.not_mem_nil, or_false, not_or]
    constructor
    · rintro ⟨h1, h2, h3, h4, h5⟩
      refine ⟨?_, ⟨fun hx => (h5 x hx).2 rfl, h4⟩, ?_⟩
      · rintro y (rfl | hy)
        · omega
        · exact h3 y hy
      · rintro y (rfl | hy)
        · exact h2
        · exact (h5 y hy).1
    · rintro ⟨h1, ⟨h2, h3⟩, h4⟩
      exact ⟨⟨(h1 x (.inl rfl)).1, by have := (h1 x (.inl rfl)).2; omega⟩, h4 x (.inl rfl), fun y hy => h1 y (.inr hy), h3, fun y hy => ⟨h4 y (.inr hy), fun e => h2 (e ▸ hy)⟩⟩
/-- An order of n jobs. -/
def orderB (n : Nat) (l : List Int) : Bool := decide ((l.length : Int) = n) && diffB n [] l
def IsOrd (n : Nat) (l : List Int) : Prop := l.length = n ∧ (∀ x ∈ l, 0 ≤ x ∧ x < n) ∧ l.Nodup
theorem orderB_iff {n : Nat} {l : List Int} : orderB n l = true ↔ IsOrd n l := by
  simp only [orderB, Bool.and_eq_true, decide_eq_true_eq, diffB_iff, IsOrd]
  constructor
  · rintro ⟨h, h1, h2, _⟩
    exact ⟨by omega, h1, h2⟩
  · rintro ⟨h, h1, h2⟩
    exact ⟨by omega, h1, h2, by simp⟩
theorem IsOrd.perm {n : Nat} {l : List Int} (h : IsOrd n l) : l.Perm (numsTo n) := perm_of l _ h.2.2 (fun x hx => mem_numsTo.2 (h.2.1 x hx)) (by rw [numsTo_length, h.1]; exact Nat.le_refl _)
theorem IsOrd.of_perm {n : Nat} {l : List Int} (h : l.Perm (numsTo n)) : IsOrd n l := ⟨by rw [h.length_eq, numsTo_length], fun x hx => mem_numsTo.1 (h.mem_iff.1 hx), h.nodup_iff.2 (numsTo_nodup n)⟩
theorem IsOrd.mem {n : Nat} {l : List Int} (h : IsOrd n l) {x : Int} : x ∈ l ↔ 0 ≤ x ∧ x < n := by rw [h.perm.mem_iff, mem_numsTo]
theorem isOrd_all {n : Nat} {l : List Int} (hl : l.length = n) (h : ∀ j : Nat, j < n → (j : Int) ∈ l) : IsOrd n l :=
  IsOrd.of_perm (perm_of _ l (numsTo_nodup n) (fun x hx => by
    obtain ⟨h0, h1⟩ := mem_numsTo.1 hx
    have := h x.toNat (by omega)
    rwa [Int.toNat_of_nonneg h0] at this) (by rw [numsTo_length, hl]; exact Nat.le_refl _)).symm
theorem l2Order_l (n : Nat) (l : List Int) (hn : n ≤ 1048576) (hl : l.length < 4611686018427387904) : ∀ (d i : Nat), i + d = n → L (fun k => spec_l2Order.l0 k (n : Int) l (i : Int)) = some (decide (∀ j : Nat, j < n → i ≤ j → (j : Int) ∈ l))
  | 0, i, hi => by
    rw [L_shift]
    simp only [spec_l2Order.l0, if_neg (show ¬ ((i : Int) < (n : Int)) by omega), L_const]
    congr 1
    symm
    rw [decide_eq_true_eq]
    intro j h1 h2
    omega
  | d + 1, i, hi => by
    rw [L_shift]
    have e : wrap64 ((i : Int) + 1) = ((i + 1 : Nat) : Int) := by
      rw [wrap_id (by omega) (by omega)]
      omega
    simp only [spec_l2Order.l0, if_pos (show ((i : Int) < (n : Int)) by omega), L_bind, l1Has_L l _ hl, Option.bind_some, e, L_ite, L_const]
    rw [l2Order_l n l hn hl d (i + 1) (by omega), ite_and]
    congr 1
    rw [← Bool.decide_and]
    apply decide_eq_decide.2
    constructor
    · rintro ⟨h1, h2⟩ j h4 h3
      rcases Nat.eq_or_lt_of_le h3 with rfl | h5
      · exact h1
      · exact h2 j h4 h5
    · intro h
      exact ⟨h i (by omega) (Nat.le_refl _), fun j h4 h3 => h j h4 (by omega)⟩
theorem l2Order_L (n : Nat) (l : List Int) (hn : n ≤ 1048576) (hl : l.length < 4611686018427387904) : L (fun k => spec_l2Order.f k (n : Int) l) = some (decide (n ≤ 8) && orderB n l) := by
  have hj : ∀ b : Bool, L (fun k => spec_l2Order.j0 k (n : Int) l b) = some (!b && decide (∀ j : Nat, j < n → (j : Int) ∈ l)) := by
    intro b
    rw [L_shift]
    simp only [spec_l2Order.j0, L_ite, L_const]
    rw [show ((0 : Int)) = ((0 : Nat) : Int) from rfl]
    rw [l2Order_l n l hn hl n 0 (by omega), ite_not_and]
    simp
  simp only [spec_l2Order.f, l1In_e, Option.bind_some, L_ite, hj]
  by_cases h8 : n ≤ 8
  · rw [if_pos (by rw [inB_iff]; omega)]
    simp only [h8, decide_true, Bool.true_and]
    congr 1
    by_cases hl2 : l.length = n
    · have e : ((l.length : Int) != (n : Int)) = false := by rw [hl2]; simp
      rw [e]
      simp only [Bool.not_false, Bool.true_and]
      by_cases h : ∀ j : Nat, j < n → (j : Int) ∈ l
      · rw [decide_eq_true h, orderB_iff.2 (isOrd_all hl2 h)]
      · rw [decide_eq_false h]
        symm
        rw [Bool.eq_false_iff]
        intro ho
        exact h (fun j hj => (orderB_iff.1 ho).mem.2 (by omega))
    · have e : ((l.length : Int) != (n : Int)) = true := by simp; omega
      rw [e]
      simp only [Bool.not_true, Bool.false_and]
      symm
      rw [Bool.eq_false_iff]
      intro ho
      exact hl2 (orderB_iff.1 ho).1
  · rw [if_neg (by rw [inB_iff]; omega)]
    simp [h8]
theorem isNumber_e (a n : Int) (h0 : -9223372036854775807 ≤ n) (h1 : n ≤ 9223372036854775807) : impl_isNumber.f a n = some (inB a 0 (n - 1)) := by
  simp only [impl_isNumber.f, within_e, Option.bind_some]
  rw [wrap_id (by omega) (by omega)]
theorem take_mid {α : Type} (pre : List α) (r : List α) : (pre ++ r).take (pre.length : Int).toNat = pre := by simp
theorem areDifferent_l (n : Nat) (hn : n ≤ 1048576) (r : List Int) : ∀ pre : List Int, (pre ++ r).length < 4611686018427387904 → L (fun k => impl_areDifferent.l0 k (n : Int) (pre ++ r) (pre ++ r) ((pre ++ r).length : Int) (pre.length : Int)) = some (diffB n pre r) := by
  induction r with
  | nil =>
    intro pre hb
    rw [L_shift]
    simp only [impl_areDifferent.l0, not_lt_end, if_false, L_const]
    simp [diffB]
  | cons x r ih =>
    intro pre hb
    rw [L_shift]
    have hl : pre.length < 4611686018427387904 := by simp at hb; omega
    have e : ((pre.length : Int) ≤ ((pre ++ x :: r).length : Int)) = True := eq_true (by simp; omega)
    simp only [impl_areDifferent.l0, lt_mid, le_nat, if_true, rd_mid, wrap_mid pre x hl, isNumber_e x (n : Int) (by omega) (by omega), Option.bind_some, e, take_mid, L_ite, L_bind, has_L pre x hl, L_const]
    rw [app_cons pre x r, ih (pre ++ [x]) (by simpa using hb), ite_not_and, ite_and]
    rfl
theorem areDifferent_L (n : Nat) (l : List Int) (hn : n ≤ 1048576) (hl : l.length < 4611686018427387904) : L (fun k => impl_areDifferent.f k (n : Int) l) = some (diffB n [] l) := areDifferent_l n hn l [] (by simpa using hl)
theorem isOrder_L (n : Nat) (l : List Int) (hn : n ≤ 1048576) (hl : l.length < 4611686018427387904) : L (fun k => impl_isOrder.f k (n : Int) l) = some (orderB n l) := by
  simp only [impl_isOrder.f, bind_self, L_ite, areDifferent_L n l hn hl, L_const, orderB]
  by_cases h : (l.length : Int) = n <;> simp [h]
def jobB (j : S89) : Bool := inB j.f0 1 50 && (inB j.f1 0 50 && (inB j.f2 0 500 && inB j.f3 0 500))
def goodB (l : List S89) : Bool := l.all jobB && decide ((l.length : Int) ≤ 8)
structure JobOk (j : S89) : Prop where
  t0 : 1 ≤ j.f0
  t1 : j.f0 ≤ 50
  w0 : 0 ≤ j.f1
  w1 : j.f1 ≤ 50
  r0 : 0 ≤ j.f2
  r1 : j.f2 ≤ 500
  d0 : 0 ≤ j.f3
  d1 : j.f3 ≤ 500
def Good (l : List S89) : Prop := l.length ≤ 8 ∧ ∀ j ∈ l, JobOk j
theorem goodB_iff {l : List S89} : goodB l = true ↔ Good l := by
  simp only [goodB, Good, Bool.and_eq_true, List.all_eq_true, decide_eq_true_eq, jobB, inB_iff]
  constructor
  · rintro ⟨h, hl⟩
    exact ⟨by omega, fun j hj => by
      obtain ⟨⟨a, b⟩, ⟨c, d⟩, ⟨e, f⟩, g, i⟩ := h j hj
      exact ⟨a, b, c, d, e, f, g, i⟩⟩
  · rintro ⟨hl, h⟩
    exact ⟨fun j hj => ⟨⟨(h j hj).t0, (h j hj).t1⟩, ⟨(h j hj).w0, (h j hj).w1⟩, ⟨(h j hj).r0, (h j hj).r1⟩, (h j hj).d0, (h j hj).d1⟩, by omega⟩
theorem l2Job_e (j : S89) : spec_l2Job.f j.f0 j.f1 j.f2 j.f3 = some (jobB j) := by
  simp only [spec_l2Job.f, l1In_e, Option.bind_some, ite_and, jobB]
theorem l2Good_l (r : List S89) : ∀ pre : List S89, (pre ++ r).length < 4611686018427387904 → L (fun k => spec_l2Good.l0 k (pre ++ r) (pre.length : Int)) = some (r.all jobB && decide (((pre ++ r).length : Int) ≤ 8)) := by
  induction r with
  | nil =>
    intro pre hb
    rw [L_shift]
    simp only [spec_l2Good.l0, not_lt_end, if_false, L_const]
    simp
  | cons x r ih =>
    intro pre hb
    rw [L_shift]
    have hl : pre.length < 4611686018427387904 := by simp at hb; omega
    have e : rd_T89 (pre ++ x :: r) (pre.length : Int) = x := getD_mid pre x r _
    simp only [spec_l2Good.l0, lt_mid, le_nat, if_true, e, wrap_mid pre x hl, l2Job_e, Option.bind_some, L_ite, L_const]
    rw [app_cons pre x r, ih (pre ++ [x]) (by simpa using hb), ite_and]
    rw [List.all_cons, Bool.and_assoc]
theorem l2Good_L (l : List S89) (h : l.length < 4611686018427387904) : L (fun k => spec_l2Good.f k l) = some (goodB l) := by
  have := l2Good_l l [] (by simpa using h)
  simpa [goodB, spec_l2Good.f] using this
theorem isDate_e (n : Int) : impl_isDate.f n = some (inB n 0 500) := by
  simp only [impl_isDate.f, within_e, Option.bind_some]
theorem IsJobs_l (r : List S89) : ∀ pre : List S89, (pre ++ r).length < 4611686018427387904 → L (fun k => impl_IsJobs.l0 k (pre ++ r) ((pre ++ r).length : Int) (pre.length : Int)) = some (r.all jobB) := by
  induction r with
  | nil =>
    intro pre hb
    rw [L_shift]
    simp only [impl_IsJobs.l0, not_lt_end, if_false, L_const]
    simp
  | cons x r ih =>
    intro pre hb
    rw [L_shift]
    have hl : pre.length < 4611686018427387904 := by simp at hb; omega
    have e : rd_T89 (pre ++ x :: r) (pre.length : Int) = x := getD_mid pre x r _
    simp only [impl_IsJobs.l0, lt_mid, le_nat, if_true, e, wrap_mid pre x hl, within_e, isDate_e, Option.bind_some, L_ite, L_const]
    rw [app_cons pre x r, ih (pre ++ [x]) (by simpa using hb)]
    simp only [ite_and, List.all_cons, jobB, Bool.and_assoc]
theorem IsJobs_L (l : List S89) (h : l.length < 4611686018427387904) : L (fun k => impl_IsJobs.f k l) = some (goodB l) := by
  have := IsJobs_l l [] (by simpa using h)
  simp only [List.nil_append, List.length_nil, Int.natCast_zero] at this
  simp only [impl_IsJobs.f, L_ite, L_const, this, goodB]
  by_cases h8 : (l.length : Int) ≤ 8
  · rw [if_neg (by omega)]
    simp [h8]
  · rw [if_pos (by omega)]
    simp [h8]
/-- Jobs and an order of them. -/
def schedB (l : List S89) (o : List Int) : Bool := goodB l && orderB l.length o
theorem l2Two_L (l : List S89) (o : List Int) (h : l.length ≤ 1048576) (ho : o.length ≤ 1048576) : L (fun k => spec_l2Two.f k l o) = some (schedB l o) := by
  simp only [spec_l2Two.f, bind_self, L_bind, L_ite, L_const, l2Good_L l (by omega), Option.bind_some, l2Order_L l.length o h (by omega), ite_and, schedB]
  cases hg : goodB l with
  | false => rfl
  | true =>
    have := (goodB_iff.1 hg).1
    simp [this]
theorem isScheduled_L (l : List S89) (o : List Int) (h : l.length ≤ 1048576) (ho : o.length ≤ 1048576) : L (fun k => impl_isScheduled.f k l o) = some (schedB l o) := by
  simp only [impl_isScheduled.f, bind_self, L_bind, L_ite, L_const, IsJobs_L l (by omega), Option.bind_some, isOrder_L l.length o h (by omega), ite_and, schedB]
theorem schedB_iff {l : List S89} {o : List Int} : schedB l o = true ↔ Good l ∧ IsOrd l.length o := by
  rw [schedB, Bool.and_eq_true, goodB_iff, orderB_iff]
def jobAt (l : List S89) (x : Int) : S89 := l.getD x.toNat z89
theorem jobAt_mem {l : List S89} {x : Int} (h0 : 0 ≤ x) (h1 : x < l.length) : jobAt l x ∈ l := by
  unfold jobAt
  rw [List.getD_eq_getElem?_getD, List.getElem?_eq_getElem (by omega)]
  exact List.getElem_mem _
/-- The ends, put into out by the jobs' numbers. -/
def endsF (l : List S89) : List Int → List Int → Int → List Int
  | [], out, _ => out
  | x :: r, out, now => endsF l r (out.set x.toNat (max now (jobAt l x).f2 + (jobAt l x).f0)) (max now (jobAt l x).f2 + (jobAt l x).f0)
def startsF (l : List S89) : List Int → List Int → Int → List Int
  | [], out, _ => out
  | x :: r, out, now => startsF l r (out.set x.toNat (max now (jobAt l x).f2)) (max now (jobAt l x).f2 + (jobAt l x).f0)
def endsP (l : List S89) (o : List Int) : List Int := endsF l o (List.replicate l.length 0) 0
def startsP (l : List S89) (o : List Int) : List Int := startsF l o (List.replicate l.length 0) 0
theorem endsF_length (l : List S89) : ∀ (o out : List Int) (now : Int), (endsF l o out now).length = out.length
  | [], out, now => rfl
  | x :: r, out, now => by rw [endsF, endsF_length l r, List.length_set]
theorem startsF_length (l : List S89) : ∀ (o out : List Int) (now : Int), (startsF l o out now).length = out.length
  | [], out, now => rfl
  | x :: r, out, now => by rw [startsF, startsF_length l r, List.length_set]
theorem endsP_length (l : List S89) (o : List Int) : (endsP l o).length = l.length := by rw [endsP, endsF_length, List.length_replicate]
theorem startsP_length (l : List S89) (o : List Int) : (startsP l o).length = l.length := by rw [startsP, startsF_length, List.length_replicate]
theorem ends_starts (l : List S89) : ∀ (o E S : List Int) (now : Int), E.length = l.length → S.length = l.length → (∀ x ∈ o, 0 ≤ x ∧ x < (l.length : Int)) →
    ∀ j : Nat, j < l.length → ((j : Int) ∈ o ∨ E.getD j 0 = S.getD j 0 + (l.getD j z89).f0) → (endsF l o E now).getD j 0 = (startsF l o S now).getD j 0 + (l.getD j z89).f0
  | [], E, S, now, _, _, _, j, _, h => by
    rcases h with h | h
    · cases h
    · exact h
  | x :: r, E, S, now, hE, hS, hx, j, hj, h => by
    rw [endsF, startsF]
    refine ends_starts l r _ _ _ (by rw [List.length_set, hE]) (by rw [List.length_set, hS]) (fun y hy => hx y (List.mem_cons_of_mem _ hy)) j hj ?_
    have hx0 := hx x List.mem_cons_self
    by_cases hr : (j : Int) ∈ r
    · exact .inl hr
    · right
      rw [getD_set, getD_set, hE, hS]
      by_cases e : x.toNat = j
      · rw [if_pos ⟨e, hj⟩, if_pos ⟨e, hj⟩]
        unfold jobAt
        rw [e]
      · rw [if_neg (fun h => e h.1), if_neg (fun h => e h.1)]
        rcases h with h | h
        · rcases List.mem_cons.1 h with h | h
          · exact absurd (by omega) e
          · exact absurd h hr
        · exact h
theorem ends_bounds (l : List S89) (hg : Good l) : ∀ (o E : List Int) (now : Int), 0 ≤ now → now ≤ 500 + 50 * (8 - o.length : Int) → o.length ≤ 8 → (∀ x ∈ o, 0 ≤ x ∧ x < (l.length : Int)) → (∀ v ∈ E, 0 ≤ v ∧ v ≤ 900) → ∀ v ∈ endsF l o E now, 0 ≤ v ∧ v ≤ 900
  | [], E, now, _, _, _, _, hE => hE
  | x :: r, E, now, h0, h1, hl, hx, hE => by
    rw [endsF]
    have hx0 := hx x List.mem_cons_self
    have hj := hg.2 _ (jobAt_mem hx0.1 hx0.2)
    have a0 := hj.t0
    have a1 := hj.t1
    have a2 := hj.r0
    have a3 := hj.r1
    simp only [List.length_cons] at h1 hl
    refine ends_bounds l hg r _ _ (by omega) (by omega) (by omega) (fun y hy => hx y (List.mem_cons_of_mem _ hy)) (fun v hv => ?_)
    rcases List.mem_or_eq_of_mem_set hv with h | h
    · exact hE v h
    · rw [h]
      omega
theorem endsP_bounds {l : List S89} {o : List Int} (hg : Good l) (ho : IsOrd l.length o) : ∀ v ∈ endsP l o, 0 ≤ v ∧ v ≤ 900 :=
  ends_bounds l hg o _ 0 (by omega) (by have := ho.1; have := hg.1; omega) (by have := ho.1; have := hg.1; omega) ho.2.1 (fun v hv => by rw [(List.mem_replicate.1 hv).2]; omega)
theorem endsP_starts {l : List S89} {o : List Int} (ho : IsOrd l.length o) (j : Nat) (hj : j < l.length) : (endsP l o).getD j 0 = (startsP l o).getD j 0 + (l.getD j z89).f0 :=
  ends_starts l o _ _ 0 (by simp) (by simp) ho.2.1 j hj (.inl (ho.mem.2 ⟨by omega, by omega⟩))
theorem endsOf_l (l : List S89) (hg : Good l) (r : List Int) (hx : ∀ x ∈ r, 0 ≤ x ∧ x < (l.length : Int)) : ∀ (pre E : List Int) (now : Int), (pre ++ r).length < 4611686018427387904 → E.length = l.length → 0 ≤ now → now + 50 * r.length ≤ 900 → r.length ≤ 8 →
    L (fun k => impl_endsOf.l0 k l E now (pre ++ r) ((pre ++ r).length : Int) (pre.length : Int)) = some (endsF l r E now) := by
  induction r with
  | nil =>
    intro pre E now hb _ _ _ _
    rw [L_shift]
    simp only [impl_endsOf.l0, not_lt_end, if_false, L_const, endsF]
  | cons x r ih =>
    intro pre E now hb hE h0 h1 h2
    rw [L_shift]
    have hl : pre.length < 4611686018427387904 := by simp at hb; omega
    have hx0 := hx x List.mem_cons_self
    have hj := hg.2 _ (jobAt_mem hx0.1 hx0.2)
    have a0 := hj.t0
    have a1 := hj.t1
    have a2 := hj.r0
    have a3 := hj.r1
    simp only [List.length_cons] at h1 h2
    have e : rd_T89 l x = jobAt l x := rfl
    simp only [impl_endsOf.l0, lt_mid, le_nat, if_true, rd_mid, wrap_mid pre x hl, e, mx_e, if_pos hx0.1, if_pos hx0.2, if_pos (show x < (E.length : Int) by omega), wrap_id (show -9223372036854775808 ≤ max now (jobAt l x).f2 + (jobAt l x).f0 by omega) (show max now (jobAt l x).f2 + (jobAt l x).f0 ≤ 9223372036854775807 by omega)]
    rw [app_cons pre x r, endsF]
    exact ih (fun y hy => hx y (List.mem_cons_of_mem _ hy)) (pre ++ [x]) _ _ (by simpa using hb) (by rw [List.length_set, hE]) (by omega) (by omega) (by omega)
theorem endsOf_L (l : List S89) (o : List Int) (hg : Good l) (ho : IsOrd l.length o) : L (fun k => impl_endsOf.f k l o) = some (endsP l o) := by
  have h8 := hg.1
  have hl := ho.1
  simp only [impl_endsOf.f, le_nat, if_true, Int.toNat_natCast, if_pos (show l.length ≤ 35184372088832 by omega)]
  exact endsOf_l l hg o ho.2.1 [] _ 0 (by simp; omega) (by simp) (by omega) (by omega) (by omega)
theorem l2Starts_l (l : List S89) (hg : Good l) (r : List Int) (hx : ∀ x ∈ r, 0 ≤ x ∧ x < (l.length : Int)) : ∀ (pre E : List Int) (now : Int), (pre ++ r).length < 4611686018427387904 → E.length = l.length → 0 ≤ now → now + 50 * r.length ≤ 900 → r.length ≤ 8 →
    L (fun k => spec_l2Starts.l0 k l (pre ++ r) E now (pre.length : Int)) = some (startsF l r E now) := by
  induction r with
  | nil =>
    intro pre E now hb _ _ _ _
    rw [L_shift]
    simp only [spec_l2Starts.l0, not_lt_end, if_false, L_const, startsF]
  | cons x r ih =>
    intro pre E now hb hE h0 h1 h2
    rw [L_shift]
    have hl : pre.length < 4611686018427387904 := by simp at hb; omega
    have hx0 := hx x List.mem_cons_self
    have hj := hg.2 _ (jobAt_mem hx0.1 hx0.2)
    have a0 := hj.t0
    have a1 := hj.t1
    have a2 := hj.r0
    have a3 := hj.r1
    simp only [List.length_cons] at h1 h2
    have e : rd_T89 l x = jobAt l x := rfl
    have e2 : rd (E.set x.toNat (max now (jobAt l x).f2)) x = max now (jobAt l x).f2 := by
      show (E.set x.toNat (max now (jobAt l x).f2)).getD x.toNat 0 = _
      rw [getD_set, if_pos ⟨rfl, by omega⟩]
    simp only [spec_l2Starts.l0, lt_mid, le_nat, if_true, rd_mid, wrap_mid pre x hl, e, l1Most_e, Option.bind_some, e2, if_pos hx0.1, if_pos hx0.2, if_pos (show x < (E.length : Int) by omega), wrap_id (show -9223372036854775808 ≤ max now (jobAt l x).f2 + (jobAt l x).f0 by omega) (show max now (jobAt l x).f2 + (jobAt l x).f0 ≤ 9223372036854775807 by omega)]
    rw [app_cons pre x r, startsF]
    exact ih (fun y hy => hx y (List.mem_cons_of_mem _ hy)) (pre ++ [x]) _ _ (by simpa using hb) (by rw [List.length_set, hE]) (by omega) (by omega) (by omega)
theorem l2Starts_L (l : List S89) (o : List Int) (hg : Good l) (ho : IsOrd l.length o) : L (fun k => spec_l2Starts.f k l o) = some (startsP l o) := by
  have h8 := hg.1
  have hl := ho.1
  simp only [spec_l2Starts.f, le_nat, if_true, Int.toNat_natCast, if_pos (show l.length ≤ 35184372088832 by omega)]
  exact l2Starts_l l hg o ho.2.1 [] _ 0 (by simp; omega) (by simp) (by omega) (by omega) (by omega)
theorem l2Ends_l (l : List S89) (T : List Int) (hT : T.length = l.length) (hB : ∀ j : Nat, j < l.length → -1000000 ≤ T.getD j 0 + (l.getD j z89).f0 ∧ T.getD j 0 + (l.getD j z89).f0 ≤ 1000000) (h8 : l.length ≤ 8) : ∀ (d i : Nat) (S : List Int), i + d = l.length → S.length = l.length →
    (∀ j : Nat, j < l.length → S.getD j 0 = if j < i then T.getD j 0 + (l.getD j z89).f0 else T.getD j 0) →
    ∃ R : List Int, L (fun k => spec_l2Ends.l0 k l S (i : Int)) = some R ∧ R.length = l.length ∧ ∀ j : Nat, j < l.length → R.getD j 0 = T.getD j 0 + (l.getD j z89).f0
  | 0, i, S, hi, hS, h => by
    refine ⟨S, ?_, hS, fun j hj => by rw [h j hj, if_pos (by omega)]⟩
    rw [L_shift]
    simp only [spec_l2Ends.l0, if_neg (show ¬ (i : Int) < (l.length : Int) by omega), L_const]
  | d + 1, i, S, hi, hS, h => by
    rw [L_shift]
    have hb := hB i (by omega)
    have e1 : rd S (i : Int) = T.getD i 0 := by
      show S.getD (i : Int).toNat 0 = _
      rw [Int.toNat_natCast, h i (by omega), if_neg (by omega)]
    have e2 : rd_T89 l (i : Int) = l.getD i z89 := by
      show l.getD (i : Int).toNat z89 = _
      rw [Int.toNat_natCast]
    have e3 : wrap64 ((i : Int) + 1) = ((i + 1 : Nat) : Int) := by
      rw [wrap_id (by omega) (by omega)]
      omega
    simp only [spec_l2Ends.l0, if_pos (show (i : Int) < (l.length : Int) by omega), if_pos (show (i : Int) < (S.length : Int) by omega), le_nat, if_true, e1, e2, e3, Int.toNat_natCast, wrap_id (show -9223372036854775808 ≤ T.getD i 0 + (l.getD i z89).f0 by omega) (by omega)]
    refine l2Ends_l l T hT hB h8 d (i + 1) _ (by omega) (by rw [List.length_set, hS]) (fun j hj => ?_)
    rw [getD_set]
    by_cases e : i = j
    · subst e
      rw [if_pos ⟨rfl, by omega⟩, if_pos (by omega)]
    · rw [if_neg (fun h => e h.1), h j hj]
      by_cases hji : j < i
      · rw [if_pos hji, if_pos (by omega)]
      · rw [if_neg hji, if_neg (by omega)]
theorem l2Ends_L (l : List S89) (o : List Int) (hg : Good l) (ho : IsOrd l.length o) : L (fun k => spec_l2Ends.f k l o) = some (endsP l o) := by
  simp only [spec_l2Ends.f, L_bind, l2Starts_L l o hg ho, Option.bind_some]
  have hb := endsP_bounds hg ho
  obtain ⟨R, h1, h2, h3⟩ := l2Ends_l l (startsP l o) (startsP_length l o) (fun j hj => by
    rw [← endsP_starts ho j hj]
    have := hb _ (getD_mem (l := endsP l o) (j := j) (by rw [endsP_length]; exact hj))
    omega) hg.1 l.length 0 (startsP l o) (by omega) (startsP_length l o) (fun j hj => by rw [if_neg (by omega)])
  rw [show (0 : Int) = ((0 : Nat) : Int) from rfl, h1]
  congr 1
  refine ext_getD (by rw [h2, endsP_length]) (fun j hj => ?_)
  rw [h3 j (by omega), endsP_starts ho j (by omega)]
theorem eqIntSS_l (r : List (List Int)) : ∀ pre : List (List Int), (pre ++ r).length < 4611686018427387904 → (∀ x ∈ r, x.length ≤ 1048576) → L (fun k => laws_eqIntSS.l0 k (pre ++ r) (pre ++ r) (pre.length : Int)) = some true := by
  induction r with
  | nil =>
    intro pre hb hr
    rw [L_shift]
    simp only [laws_eqIntSS.l0, not_lt_end, if_false, L_const]
  | cons x r ih =>
    intro pre hb hr
    rw [L_shift]
    have hl : pre.length < 4611686018427387904 := by simp at hb; omega
    have e : rd_L4 (pre ++ x :: r) (pre.length : Int) = x := getD_mid pre x r _
    simp only [laws_eqIntSS.l0, lt_mid, le_nat, if_true, e, wrap_mid pre x hl, L_bind, L_const, eqIntS_L x (hr x List.mem_cons_self), Option.bind_some]
    rw [app_cons pre x r]
    exact ih (pre ++ [x]) (by simpa using hb) (fun y hy => hr y (List.mem_cons_of_mem _ hy))
theorem eqIntSS_L (l : List (List Int)) (h : l.length ≤ 1048576) (hr : ∀ x ∈ l, x.length ≤ 1048576) : L (fun k => laws_eqIntSS.f k l l) = some true := by
  simp only [laws_eqIntSS.f, if_true]
  exact eqIntSS_l l [] (by simp; omega) hr
/-- Rows of the numbers from v on, each as long as a list's rows. -/
def countSS {α : Type} : Int → List (List α) → List (List Int)
  | _, [] => []
  | v, x :: r => countI v x :: countSS (v + x.length) r
def sumLen {α : Type} : List (List α) → Nat
  | [] => 0
  | x :: r => x.length + sumLen r
theorem markIntSS_l (r : List (List Int)) : ∀ (pre : List (List Int)) (v : Int), (pre ++ r).length < 4611686018427387904 → 0 ≤ v → v + (sumLen r : Int) ≤ 1000000000 → (∀ x ∈ r, x.length ≤ 1048576) →
    L (fun k => laws_markIntSS.l0 k (pre ++ r) v (pre.length : Int)) = some (v + (sumLen r : Int), pre ++ countSS v r) := by
  induction r with
  | nil =>
    intro pre v hb h0 h1 hr
    rw [L_shift]
    simp only [laws_markIntSS.l0, not_lt_end, if_false, L_const]
    simp [countSS, sumLen]
  | cons x r ih =>
    intro pre v hb h0 h1 hr
    rw [L_shift]
    have hl : pre.length < 4611686018427387904 := by simp at hb; omega
    have e : (pre ++ x :: r).getD (pre.length : Int).toNat ([] : List Int) = x := getD_mid pre x r _
    simp only [sumLen, Int.natCast_add] at h1
    simp only [laws_markIntSS.l0, lt_mid, le_nat, if_true, e, L_bind, L_const, markIntS_L x v (hr x List.mem_cons_self) h0 (by omega), Option.bind_some, set_mid pre x _ r pre rfl, wrap_mid pre x hl]
    rw [app_cons pre (countI v x) r, show (pre ++ [x]).length = (pre ++ [countI v x]).length by simp, ih (pre ++ [countI v x]) (v + x.length) (by simpa using hb) (by omega) (by omega) (fun y hy => hr y (List.mem_cons_of_mem _ hy))]
    simp only [countSS, sumLen, List.append_assoc, List.cons_append, List.nil_append, Int.natCast_add, Option.some.injEq, Prod.mk.injEq, and_true]
    omega
theorem markIntSS_L (l : List (List Int)) (v : Int) (h : l.length ≤ 1048576) (hr : ∀ x ∈ l, x.length ≤ 1048576) (h0 : 0 ≤ v) (h1 : v + (sumLen l : Int) ≤ 1000000000) : L (fun k => laws_markIntSS.f k l v) = some (v + (sumLen l : Int), countSS v l) := by
  have := markIntSS_l l [] v (by simp; omega) h0 h1 hr
  simpa [laws_markIntSS.f] using this
theorem heldIntSS_l {α : Type} (r : List (List α)) : ∀ (pre : List (List Int)) (v : Int), (pre.length + r.length) < 4611686018427387904 → 0 ≤ v → v + (sumLen r : Int) ≤ 1000000000 → (∀ x ∈ r, x.length ≤ 1048576) →
    L (fun k => laws_heldIntSS.l0 k (pre ++ countSS v r) v (pre.length : Int)) = some (v + (sumLen r : Int)) := by
  induction r with
  | nil =>
    intro pre v hb h0 h1 hr
    rw [L_shift]
    simp only [laws_heldIntSS.l0, countSS, not_lt_end, if_false, L_const]
    simp [sumLen]
  | cons x r ih =>
    intro pre v hb h0 h1 hr
    rw [L_shift]
    simp only [List.length_cons] at hb
    simp only [sumLen, Int.natCast_add] at h1
    have hl : pre.length < 4611686018427387904 := by omega
    have e : rd_L4 (pre ++ countSS v (x :: r)) (pre.length : Int) = countI v x := getD_mid pre _ _ _
    simp only [laws_heldIntSS.l0, e]
    simp only [countSS, lt_mid, le_nat, if_true, wrap_mid pre (countI v x) hl, L_bind, L_ite, L_const, heldIntS_L x v (hr x List.mem_cons_self) h0 (by omega), Option.bind_some, if_neg (show ¬ (v + (x.length : Int) < 0) by omega)]
    have := ih (pre ++ [countI v x]) (v + x.length) (by simp; omega) (by omega) (by omega) (fun y hy => hr y (List.mem_cons_of_mem _ hy))
    simp only [List.append_assoc, List.cons_append, List.nil_append, List.length_append, List.length_cons, List.length_nil] at this ⊢
    rw [this]
    simp only [sumLen, Int.natCast_add, Option.some.injEq]
    omega
theorem heldIntSS_L {α : Type} (l : List (List α)) (v : Int) (h : l.length ≤ 1048576) (hr : ∀ x ∈ l, x.length ≤ 1048576) (h0 : 0 ≤ v) (h1 : v + (sumLen l : Int) ≤ 1000000000) : L (fun k => laws_heldIntSS.f k (countSS v l) v) = some (v + (sumLen l : Int)) := by
  have := heldIntSS_l l [] v (by simp; omega) h0 h1 hr
  simpa [laws_heldIntSS.f] using this

def addLast (A : List (List Int)) (x : Int) : List (List Int) := A.set (A.length - 1) (A.getD (A.length - 1) [] ++ [x])
theorem addLast_new (A : List (List Int)) (x : Int) : addLast (A ++ [[]]) x = A ++ [[x]] := by
  unfold addLast
  have e1 : (A ++ [[]]).length - 1 = A.length := by simp
  rw [e1]
  have e2 : (A ++ [([] : List Int)]).getD A.length [] = [] := by simp [List.getD]
  rw [e2, List.set_append_right _ _ (Nat.le_refl _)]
  simp
theorem addLast_length (A : List (List Int)) (x : Int) : (addLast A x).length = A.length := List.length_set
theorem sumLen_set (A : List (List Int)) (i : Nat) (x : Int) (h : i < A.length) : sumLen (A.set i (A.getD i [] ++ [x])) = sumLen A + 1 := by
  induction A generalizing i with
  | nil => simp at h
  | cons a A ih =>
    cases i with
    | zero => simp [sumLen]; omega
    | succ i =>
      have := ih i (by simpa using h)
      simp only [List.set_cons_succ, List.getD_cons_succ, sumLen, this]
      omega
theorem sumLen_app (A B : List (List Int)) : sumLen (A ++ B) = sumLen A + sumLen B := by
  induction A with
  | nil => simp [sumLen]
  | cons a A ih => simp only [List.cons_append, sumLen, ih]; omega
theorem len_le_sum : ∀ (A : List (List Int)) (x : List Int), x ∈ A → x.length ≤ sumLen A
  | a :: A, x, h => by
    rcases List.mem_cons.1 h with h | h
    · subst h; simp only [sumLen]; omega
    · have := len_le_sum A x h; simp only [sumLen]; omega
theorem getD_le_sum (A : List (List Int)) (i : Nat) : (A.getD i []).length ≤ sumLen A := by
  rw [List.getD_eq_getElem?_getD]
  cases h : A[i]? with
  | none => simp
  | some x => exact len_le_sum A x (List.mem_of_getElem? h)
theorem rdLast (A : List (List Int)) (h : 0 < A.length) (h2 : A.length ≤ 1000) : wrap64 ((A.length : Int) - 1) = ((A.length - 1 : Nat) : Int) := by
  rw [wrap_id (by omega) (by omega)]; omega
theorem blocks_sum (l : List S89) (hg : Good l) (o : List Int) (ho : IsOrd l.length o) (S E : List Int) (hS : S.length = l.length) (hE : E.length = l.length) (hb : ∀ j : Nat, j < l.length → -1000000 ≤ E.getD j 0 ∧ E.getD j 0 ≤ 1000000)
    (hse : ∀ j : Nat, j < l.length → E.getD j 0 = S.getD j 0 + (l.getD j z89).f0) : ∀ (r pre : List Int) (A : List (List Int)), pre ++ r = o → (0 < pre.length → 0 < A.length) → A.length ≤ pre.length → sumLen A = pre.length →
    ∃ R : List (List Int), L (fun k => spec_BlocksOf.l0 k o A S E (pre.length : Int)) = some (R, true) ∧ L (fun k => impl_blocksOf.l0 k l o E A o (o.length : Int) (pre.length : Int)) = some R ∧ R.length ≤ o.length ∧ sumLen R = o.length := by
  have h8 := hg.1
  have hol := ho.1
  intro r
  induction r with
  | nil =>
    intro pre A hp h0 h1 h2
    simp only [List.append_nil] at hp
    subst hp
    refine ⟨A, ?_, ?_, h1, h2⟩
    · rw [L_shift]
      simp only [spec_BlocksOf.l0, Int.lt_irrefl, if_false, L_const]
    · rw [L_shift]
      simp only [impl_blocksOf.l0, Int.lt_irrefl, if_false, L_const]
  | cons x r ih =>
    intro pre A hp h0 h1 h2
    have hlen : pre.length + (r.length + 1) = o.length := by rw [← hp]; simp
    have hx : 0 ≤ x ∧ x < (l.length : Int) := ho.2.1 x (by rw [← hp]; simp)
    have hlt : (pre.length : Int) < (o.length : Int) := by omega
    have hw : wrap64 ((pre.length : Int) + 1) = ((pre ++ [x]).length : Int) := by rw [wrap_id (by omega) (by omega)]; simp
    have ex : rd o (pre.length : Int) = x := by rw [← hp]; exact getD_mid pre x r _
    have hp2 : (pre ++ [x]) ++ r = o := by rw [← hp]; simp
    have lA : A.length < 5864062014805 := by omega
    by_cases hz : pre = []
    · subst hz
      have hA : A = [] := by
        cases A with
        | nil => rfl
        | cons a A => simp at h1
      subst hA
      obtain ⟨R, hs, hi, hr1, hr2⟩ := ih ([] ++ [x]) [[x]] hp2 (by simp) (by simp) (by simp [sumLen])
      refine ⟨R, ?_, ?_, hr1, hr2⟩
      · rw [L_shift]
        simp only [spec_BlocksOf.l0, ex, hw, if_pos hlt]
        simpa using hs
      · rw [L_shift]
        simp only [impl_blocksOf.l0, ex, hw, if_pos hlt]
        simp only [if_true, Int.le_refl, le_nat, List.length_nil, Int.natCast_zero, Nat.zero_lt_succ, Option.bind_some, List.nil_append]
        have f1 : wrap64 ((([[]] : List (List Int)).length : Int) - 1) = 0 := by rw [wrap_id (by simp) (by simp)]; simp
        simp only [f1]
        exact hi
    · have hpos : 0 < pre.length := List.length_pos_iff.2 hz
      have hA := h0 hpos
      obtain ⟨p0, p, rfl⟩ : ∃ p0 p, pre = p0 ++ [p] := ⟨pre.dropLast, pre.getLast hz, (List.dropLast_concat_getLast hz).symm⟩
      have hpm : 0 ≤ p ∧ p < (l.length : Int) := ho.2.1 p (by rw [← hp]; simp)
      have hw1 : wrap64 (((p0 ++ [p]).length : Int) - 1) = (p0.length : Int) := by
        have e_ : ((p0 ++ [p]).length : Int) - 1 = (p0.length : Int) := by simp
        rw [e_, wrap_id (by omega) (by simp at hlen; omega)]
      have ep : rd o (p0.length : Int) = p := by rw [← hp]; simp only [List.append_assoc, List.cons_append, List.nil_append]; exact getD_mid p0 p _ _
      have hwA := rdLast A hA (by omega)
      have jx : x.toNat < l.length := by omega
      have e1 : rd E x = E.getD x.toNat 0 := rfl
      have e2 : rd S x = S.getD x.toNat 0 := rfl
      have e3 : rd_T89 l x = l.getD x.toNat z89 := rfl
      have hbx := hb _ jx
      have hjx := hg.2 _ (jobAt_mem hx.1 hx.2)
      have e4 : wrap64 (rd E x - (rd_T89 l x).f0) = rd S x := by
        have := hse _ jx
        have b0 : 1 ≤ (l.getD x.toNat z89).f0 ∧ (l.getD x.toNat z89).f0 ≤ 50 := ⟨hjx.t0, hjx.t1⟩
        rw [e1, e2, e3, wrap_id (by omega) (by omega)]
        omega
      have c1 : (0 : Int) ≤ ((A.length - 1 : Nat) : Int) := by omega
      have c2 : ((A.length - 1 : Nat) : Int) < (A.length : Int) := by omega
      have eA : ∀ B : List (List Int), rd_L4 B ((A.length - 1 : Nat) : Int) = B.getD (A.length - 1) [] := fun B => by simp [rd_L4]
      have c3 : (A.getD (A.length - 1) []).length < 17592186044416 := by
        have := getD_le_sum A (A.length - 1)
        omega
      have g1 : ((p0 ++ [p]).length : Int) > 0 := by omega
      have g2 : ¬ ((p0 ++ [p]).length : Int) = 0 := by omega
      have g3 : (p0.length : Int) < (o.length : Int) := by simp at hlen; omega
      have sS : x < (S.length : Int) := by omega
      have sE : x < (E.length : Int) := by omega
      have pE : p < (E.length : Int) := by omega
      by_cases hc : rd S x = rd E p
      · obtain ⟨R, hs, hi, hr1, hr2⟩ := ih ((p0 ++ [p]) ++ [x]) (addLast A x) hp2 (fun _ => by rw [addLast_length]; exact hA) (by rw [addLast_length]; simp at h1 ⊢; omega) (by unfold addLast; rw [sumLen_set _ _ _ (by omega), h2]; simp)
        refine ⟨R, ?_, ?_, hr1, hr2⟩
        · rw [L_shift]
          simp only [spec_BlocksOf.l0, ex, hw, if_pos hlt, if_pos g1, le_nat, if_true, hx.1, sS, hw1, ep, hpm.1, pE, g3, hc, hwA, c1, c2, eA, c3, Int.toNat_natCast]
          exact hs
        · rw [L_shift]
          simp only [impl_blocksOf.l0, ex, hw, if_pos hlt, if_neg g2, le_nat, if_true, hx.1, hx.2, sE, hw1, ep, hpm.1, pE, g3, e4, hc, hwA, c1, c2, eA, c3, Int.toNat_natCast]
          exact hi
      · obtain ⟨R, hs, hi, hr1, hr2⟩ := ih ((p0 ++ [p]) ++ [x]) (A ++ [[x]]) hp2 (fun _ => by simp) (by simp at h1 ⊢; omega) (by rw [sumLen_app, h2]; simp [sumLen])
        refine ⟨R, ?_, ?_, hr1, hr2⟩
        · rw [L_shift]
          simp only [spec_BlocksOf.l0, ex, hw, if_pos hlt, if_pos g1, le_nat, if_true, hx.1, sS, hw1, ep, hpm.1, pE, g3, hc, if_false, lA]
          exact hs
        · rw [L_shift]
          have hwB := rdLast (A ++ [[]]) (by simp) (by simp; omega)
          have d1 : (0 : Int) ≤ (((A ++ [([] : List Int)]).length - 1 : Nat) : Int) := by omega
          have d2 : (((A ++ [([] : List Int)]).length - 1 : Nat) : Int) < ((A ++ [([] : List Int)]).length : Int) := by simp; omega
          have eB : rd_L4 (A ++ [([] : List Int)]) (((A ++ [([] : List Int)]).length - 1 : Nat) : Int) = (A ++ [([] : List Int)]).getD ((A ++ [([] : List Int)]).length - 1) [] := by simp [rd_L4]
          have d3 : ((A ++ [([] : List Int)]).getD ((A ++ [([] : List Int)]).length - 1) []).length < 17592186044416 := by simp [List.getD]
          simp only [impl_blocksOf.l0, ex, hw, if_pos hlt, if_neg g2, le_nat, if_true, hx.1, hx.2, sE, hw1, ep, hpm.1, pE, g3, e4, hc, if_false, lA, Option.bind_some, hwB, d1, d2, eB, d3, Int.toNat_natCast]
          have := addLast_new A x
          unfold addLast at this
          rw [this]
          exact hi
theorem BlocksOf_both (l : List S89) (o : List Int) (h : l.length ≤ 1048576) (ho : o.length ≤ 1048576) :
    ∃ (R : List (List Int)) (ok : Bool), L (fun k => spec_BlocksOf.f k l o) = some (R, ok) ∧ L (fun k => impl_BlocksOf.f k l o) = some (R, ok) ∧ R.length ≤ 1048576 ∧ (∀ x ∈ R, x.length ≤ 1048576) ∧ sumLen R ≤ 1048576 := by
  simp only [spec_BlocksOf.f, impl_BlocksOf.f, L_bind, L_ite, L_const, l2Two_L l o h ho, isScheduled_L l o h ho, Option.bind_some]
  cases hs : schedB l o with
  | false => exact ⟨[], false, by simp, by simp, by simp, by simp, by simp [sumLen]⟩
  | true =>
    obtain ⟨hg, hi⟩ := schedB_iff.1 hs
    have h8 := hg.1
    have hl := hi.1
    have hbE : ∀ j : Nat, j < l.length → -1000000 ≤ (endsP l o).getD j 0 ∧ (endsP l o).getD j 0 ≤ 1000000 := fun j hj => by
      have hm : (endsP l o).getD j 0 ∈ endsP l o := by
        rw [List.getD_eq_getElem?_getD, List.getElem?_eq_getElem (by rw [endsP_length]; exact hj)]
        exact List.getElem_mem _
      have := endsP_bounds hg hi _ hm
      omega
    obtain ⟨R, h1, h2, h3, h4⟩ := blocks_sum l hg o hi (startsP l o) (endsP l o) (startsP_length l o) (endsP_length l o) hbE (fun j hj => endsP_starts hi j hj) o [] [] rfl (by simp) (by simp) (by simp [sumLen])
    refine ⟨R, true, ?_, ?_, by omega, fun x hx => ?_, by omega⟩
    · simp only [if_true, l2Starts_L l o hg hi, l2Ends_L l o hg hi, Option.bind_some]
      exact h1
    · simp only [if_true, impl_blocksOf.f, L_bind, endsOf_L l o hg hi, Option.bind_some]
      have h2' : L (fun k => impl_blocksOf.l0 k l o (endsP l o) [] o (o.length : Int) 0) = some R := h2
      rw [h2']
      rfl
    · have := len_le_sum R x hx
      omega

theorem FnExactBlocksOf : laws_FnExactBlocksOf.Pure := by
  intro l o h1 _ h2 _
  have e1 : maxLen = 9223372036854775807 := rfl
  refine rounds_of_L ?_
  unfold laws_FnExactBlocksOf.f
  rw [szJobS_e l (by omega)]
  by_cases ho : o.length ≤ 1048576
  · rw [L_ite, if_neg (by omega)]
    by_cases hl : l.length ≤ 1048576
    · have hl2 : (l.map toJobP).length ≤ 1048576 := by simpa using hl
      obtain ⟨R, ok, hs, hi, hR, hRr, hRs⟩ := BlocksOf_both (l.map toJobP) o hl2 ho
      rw [if_pos hl]
      simp only [Option.bind_some]
      rw [L_ite, if_neg (by omega)]
      (rw [L_bind, (toJobS_L l hl), Option.bind_some]; try dsimp only)
      (rw [L_bind, (toIntS_L o ho), Option.bind_some]; try dsimp only)
      (rw [L_bind, hs, Option.bind_some]; try dsimp only)
      (rw [L_bind, (toJobS_L l hl), Option.bind_some]; try dsimp only)
      (rw [L_bind, (toIntS_L o ho), Option.bind_some]; try dsimp only)
      (rw [L_bind, hi, Option.bind_some]; try dsimp only)
      (rw [L_bind, (eqIntSS_L R hR hRr), Option.bind_some]; try dsimp only)
      rw [L_ite, if_pos rfl]
      rw [L_ite, if_pos rfl]
      (rw [L_bind, (toJobS_L l hl), Option.bind_some]; try dsimp only)
      (rw [L_bind, (eqJobS_L _ hl2), Option.bind_some]; try dsimp only)
      rw [L_ite, if_pos rfl]
      (rw [L_bind, (toIntS_L o ho), Option.bind_some]; try dsimp only)
      (rw [L_bind, (eqIntS_L o ho), Option.bind_some]; try dsimp only)
      rw [L_ite, if_pos rfl]
      (rw [L_bind, (markJobS_L (l.map toJobP) 1 hl2 (by omega) (by omega)), Option.bind_some]; try dsimp only)
      (rw [L_bind, (markIntS_L o _ ho (by omega) (by omega)), Option.bind_some]; try dsimp only)
      rw [L_ite, if_neg (by omega)]
      (rw [L_bind, (eqIntSS_L R hR hRr), Option.bind_some]; try dsimp only)
      rw [L_ite, if_pos rfl]
      rw [L_ite, if_pos rfl]
      (rw [L_bind, (markIntSS_L R 1 hR hRr (by omega) (by omega)), Option.bind_some]; try dsimp only)
      (rw [L_bind, (heldIntSS_L R 1 hR hRr (by omega) (by omega)), Option.bind_some]; try dsimp only)
      rw [L_ite, if_neg (by omega)]
      rw [L_ite, if_pos rfl]
      (rw [L_bind, (toJobS_L l hl), Option.bind_some]; try dsimp only)
      (rw [L_bind, (toIntS_L o ho), Option.bind_some]; try dsimp only)
      (rw [L_bind, hi, Option.bind_some]; try dsimp only)
      (rw [L_bind, (eqIntSS_L R hR hRr), Option.bind_some]; try dsimp only)
      rw [L_ite, if_pos rfl]
      rw [L_ite, if_pos rfl]
      (rw [L_bind, (heldIntSS_L R 1 hR hRr (by omega) (by omega)), Option.bind_some]; try dsimp only)
      rw [L_ite, if_neg (by omega)]
      rw [L_ite, if_pos rfl]
      rw [L_const]
    · rw [if_neg hl]
      simp only [Option.bind_some]
      rw [L_ite, if_pos (show (-1 : Int) < 0 by decide), L_const]
  · rw [L_ite, if_pos (by omega), L_const]

end Go.Proofs.Ytgpnophjbibhhaa.Pure
