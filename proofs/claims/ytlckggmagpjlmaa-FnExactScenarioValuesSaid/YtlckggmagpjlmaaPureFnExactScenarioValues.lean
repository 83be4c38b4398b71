/- The program's ScenarioValues answers what the reference's answers, for all scenarios, orders and objectives. -/
import Derived.Test.YtlckggmagpjlmaaXSFnExactScenarioValues
import Derived.Test.YtlckggmagpjlmaaXLim
namespace Go.Proofs.Ytlckggmagpjlmaa.Pure
open Go.RowKit Go.Proofs.YtlckggmagpjlmaaW.PrintWords Go.Proofs.YtlckggmagpjlmaaW.PrintLast Go.Proofs.YtlckggmagpjlmaaW.PrintMore Go.Proofs.Ytlckggmagpjlmaa.X Go.Proofs.Ytlckggmagpjlmaa.XRow Go.Proofs.Ytlckggmagpjlmaa.XLim
set_option linter.unusedVariables false
set_option linter.unusedSimpArgs false
instance : ∀ a0, Mono (fun k => impl_AreScenarios.f k a0) := fun a0 => ⟨⟨impl_AreScenarios.mono a0⟩⟩
instance : ∀ a0, Mono (fun k => impl_IsJobs.f k a0) := fun a0 => ⟨⟨impl_IsJobs.mono a0⟩⟩
instance : ∀ a0 a1 a2, Mono (fun k => impl_ScenarioValues.f k a0 a1 a2) := fun a0 a1 a2 => ⟨⟨impl_ScenarioValues.mono a0 a1 a2⟩⟩
instance : ∀ a0 a1, Mono (fun k => impl_areDifferent.f k a0 a1) := fun a0 a1 => ⟨⟨impl_areDifferent.mono a0 a1⟩⟩
instance : ∀ a0 a1, Mono (fun k => impl_areRobust.f k a0 a1) := fun a0 a1 => ⟨⟨impl_areRobust.mono a0 a1⟩⟩
instance : ∀ a0 a1, Mono (fun k => impl_endsOf.f k a0 a1) := fun a0 a1 => ⟨⟨impl_endsOf.mono a0 a1⟩⟩
instance : ∀ a0 a1, Mono (fun k => impl_has.f k a0 a1) := fun a0 a1 => ⟨⟨impl_has.mono a0 a1⟩⟩
instance : ∀ a0 a1, Mono (fun k => impl_isOrder.f k a0 a1) := fun a0 a1 => ⟨⟨impl_isOrder.mono a0 a1⟩⟩
instance : ∀ a0 a1 a2, Mono (fun k => impl_scenarioValues.f k a0 a1 a2) := fun a0 a1 a2 => ⟨⟨impl_scenarioValues.mono a0 a1 a2⟩⟩
instance : ∀ a0 a1 a2, Mono (fun k => impl_valueOf.f k a0 a1 a2) := fun a0 a1 a2 => ⟨⟨impl_valueOf.mono a0 a1 a2⟩⟩
instance : ∀ a0 a1 a2, Mono (fun k => impl_valueOfEnds.f k a0 a1 a2) := fun a0 a1 a2 => ⟨⟨impl_valueOfEnds.mono a0 a1 a2⟩⟩
instance : ∀ l0 l1 a2, Mono (fun k => laws_FnExactScenarioValues.f k l0 l1 a2) := fun l0 l1 a2 => ⟨⟨laws_FnExactScenarioValues.mono l0 l1 a2⟩⟩
instance : ∀ a0 a1, Mono (fun k => laws_eqIntS.f k a0 a1) := fun a0 a1 => ⟨⟨laws_eqIntS.mono a0 a1⟩⟩
instance : ∀ a0 a1, Mono (fun k => laws_eqJobS.f k a0 a1) := fun a0 a1 => ⟨⟨laws_eqJobS.mono a0 a1⟩⟩
instance : ∀ a0 a1, Mono (fun k => laws_eqJobSS.f k a0 a1) := fun a0 a1 => ⟨⟨laws_eqJobSS.mono a0 a1⟩⟩
instance : ∀ a0 a1, Mono (fun k => laws_heldIntS.f k a0 a1) := fun a0 a1 => ⟨⟨laws_heldIntS.mono a0 a1⟩⟩
instance : ∀ a0 a1, Mono (fun k => laws_markIntS.f k a0 a1) := fun a0 a1 => ⟨⟨laws_markIntS.mono a0 a1⟩⟩
instance : ∀ a0 a1, Mono (fun k => laws_markJobS.f k a0 a1) := fun a0 a1 => ⟨⟨laws_markJobS.mono a0 a1⟩⟩
instance : ∀ a0 a1, Mono (fun k => laws_markJobSS.f k a0 a1) := fun a0 a1 => ⟨⟨laws_markJobSS.mono a0 a1⟩⟩
instance : ∀ a0 a1, Mono (fun k => laws_szJobSS.f k a0 a1) := fun a0 a1 => ⟨⟨laws_szJobSS.mono a0 a1⟩⟩
instance : ∀ a0, Mono (fun k => laws_toIntS.f k a0) := fun a0 => ⟨⟨laws_toIntS.mono a0⟩⟩
instance : ∀ a0, Mono (fun k => laws_toJobS.f k a0) := fun a0 => ⟨⟨laws_toJobS.mono a0⟩⟩
instance : ∀ a0, Mono (fun k => laws_toJobSS.f k a0) := fun a0 => ⟨⟨laws_toJobSS.mono a0⟩⟩
instance : ∀ a0 a1 a2, Mono (fun k => spec_ScenarioValues.f k a0 a1 a2) := fun a0 a1 a2 => ⟨⟨spec_ScenarioValues.mono a0 a1 a2⟩⟩
instance : ∀ a0 a1 a2, Mono (fun k => spec_l11Fits.f k a0 a1 a2) := fun a0 a1 a2 => ⟨⟨spec_l11Fits.mono a0 a1 a2⟩⟩
instance : ∀ a0, Mono (fun k => spec_l11Lists.f k a0) := fun a0 => ⟨⟨spec_l11Lists.mono a0⟩⟩
instance : ∀ a0 a1 a2, Mono (fun k => spec_l11Values.f k a0 a1 a2) := fun a0 a1 a2 => ⟨⟨spec_l11Values.mono a0 a1 a2⟩⟩
instance : ∀ a0 a1, Mono (fun k => spec_l1Has.f k a0 a1) := fun a0 a1 => ⟨⟨spec_l1Has.mono a0 a1⟩⟩
instance : ∀ a0 a1, Mono (fun k => spec_l2Ends.f k a0 a1) := fun a0 a1 => ⟨⟨spec_l2Ends.mono a0 a1⟩⟩
instance : ∀ a0, Mono (fun k => spec_l2Good.f k a0) := fun a0 => ⟨⟨spec_l2Good.mono a0⟩⟩
instance : ∀ a0 a1 a2, Mono (fun k => spec_l2Of.f k a0 a1 a2) := fun a0 a1 a2 => ⟨⟨spec_l2Of.mono a0 a1 a2⟩⟩
instance : ∀ a0 a1, Mono (fun k => spec_l2Order.f k a0 a1) := fun a0 a1 => ⟨⟨spec_l2Order.mono a0 a1⟩⟩
instance : ∀ a0 a1, Mono (fun k => spec_l2Starts.f k a0 a1) := fun a0 a1 => ⟨⟨spec_l2Starts.mono a0 a1⟩⟩
instance : ∀ a0 a1 a2, Mono (fun k => spec_l2Value.f k a0 a1 a2) := fun a0 a1 a2 => ⟨⟨spec_l2Value.mono a0 a1 a2⟩⟩
theorem lt_mid {α : Type} (pre : List α) (x : α) (r : List α) : ((pre.length : Int) < ((pre ++ x :: r).length : Int)) = True := by
  simp only [List.length_append, List.length_cons]
  exact eq_true (by omega)
theorem not_lt_end {α : Type} (pre : List α) : ((pre.length : Int) < ((pre ++ []).length : Int)) = False := by
  simp
theorem le_nat (n : Nat) : (0 ≤ (n : Int)) = True := eq_true (by omega)
theorem getD_mid {α : Type} (pre : List α) (x : α) (r : List α) (d : α) : (pre ++ x :: r).getD (pre.length : Int).toNat d = x := by
  simp [List.getD_eq_getElem?_getD]
theorem rd_mid (pre : List Int) (x : Int) (r : List Int) : rd (pre ++ x :: r) (pre.length : Int) = x := getD_mid pre x r 0
theorem wrap_mid {α : Type} (pre : List α) (x : α) (h : pre.length < 4611686018427387904) : wrap64 ((pre.length : Int) + 1) = ((pre ++ [x]).length : Int) := by
  rw [wrap_id (by omega) (by omega)]
  simp
theorem set_mid {α β : Type} (a : List α) (y v : α) (b : List α) (pre : List β) (h : pre.length = a.length) : (a ++ y :: b).set (pre.length : Int).toNat v = a ++ v :: b := by
  rw [Int.toNat_natCast, h, List.set_append_right _ _ (Nat.le_refl _)]
  simp
theorem rep_succ {α : Type} (x : α) (r : List α) {β : Type} (z : β) : List.replicate (x :: r).length z = z :: List.replicate r.length z := rfl
theorem app_cons {α : Type} (pre : List α) (x : α) (r : List α) : pre ++ x :: r = (pre ++ [x]) ++ r := by simp
theorem getD_set (out : List Int) (i j : Nat) (v : Int) : (out.set i v).getD j 0 = if i = j ∧ j < out.length then v else out.getD j 0 := by
  simp only [List.getD_eq_getElem?_getD, List.getElem?_set]
  by_cases h : i = j
  · subst h
    by_cases h2 : i < out.length
    · simp [h2]
    · simp [h2]
  · simp [h]
theorem ext_getD {a b : List Int} (hl : a.length = b.length) (h : ∀ j : Nat, j < a.length → a.getD j 0 = b.getD j 0) : a = b := by
  apply List.ext_getElem hl
  intro j h1 h2
  have := h j h1
  rwa [List.getD_eq_getElem?_getD, List.getD_eq_getElem?_getD, List.getElem?_eq_getElem h1, List.getElem?_eq_getElem h2] at this
theorem getD_mem {l : List Int} {j : Nat} (hj : j < l.length) : l.getD j 0 ∈ l := by
  rw [List.getD_eq_getElem?_getD, List.getElem?_eq_getElem hj]
  exact List.getElem_mem _
theorem toIntS_l (r : List Int) : ∀ pre : List Int, (pre ++ r).length < 4611686018427387904 → L (fun k => laws_toIntS.l0 k (pre ++ r) (pre ++ List.replicate r.length 0) (pre.length : Int)) = some (pre ++ r) := by
  induction r with
  | nil =>
    intro pre hb
    rw [L_shift]
    simp only [laws_toIntS.l0, not_lt_end, if_false, L_const, List.length_nil, List.replicate_zero]
  | cons x r ih =>
    intro pre hb
    rw [L_shift]
    have hl : pre.length < 4611686018427387904 := by simp at hb; omega
    simp only [laws_toIntS.l0, lt_mid, le_nat, if_true, rep_succ, rd_mid, wrap_mid pre x hl, set_mid pre _ x _ pre rfl]
    rw [app_cons pre x r, app_cons pre x (List.replicate _ _)]
    exact ih (pre ++ [x]) (by simpa using hb)
theorem toIntS_L (l : List Int) (h : l.length ≤ 1048576) : L (fun k => laws_toIntS.f k l) = some l := by
  simp only [laws_toIntS.f, le_nat, if_true, Int.toNat_natCast, if_pos (show l.length ≤ 35184372088832 by omega)]
  exact toIntS_l l [] (by simp; omega)
theorem eqIntS_l (r : List Int) : ∀ pre : List Int, (pre ++ r).length < 4611686018427387904 → L (fun k => laws_eqIntS.l0 k (pre ++ r) (pre ++ r) (pre.length : Int)) = some true := by
  induction r with
  | nil =>
    intro pre hb
    rw [L_shift]
    simp only [laws_eqIntS.l0, not_lt_end, if_false, L_const]
  | cons x r ih =>
    intro pre hb
    rw [L_shift]
    have hl : pre.length < 4611686018427387904 := by simp at hb; omega
    simp only [laws_eqIntS.l0, lt_mid, le_nat, if_true, rd_mid, wrap_mid pre x hl]
    rw [app_cons pre x r]
    exact ih (pre ++ [x]) (by simpa using hb)
theorem eqIntS_L (l : List Int) (h : l.length ≤ 1048576) : L (fun k => laws_eqIntS.f k l l) = some true := by
  simp only [laws_eqIntS.f, if_true]
  exact eqIntS_l l [] (by simp; omega)
def toJobP (x : S51) : S49 := ⟨x.f0, x.f1, x.f2, x.f3⟩
theorem toJobS_l (r : List S51) : ∀ pre : List S51, (pre ++ r).length < 4611686018427387904 → L (fun k => laws_toJobS.l0 k (pre ++ r) (pre.map toJobP ++ List.replicate r.length z49) (pre.length : Int)) = some ((pre ++ r).map toJobP) := by
  induction r with
  | nil =>
    intro pre hb
    rw [L_shift]
    simp only [laws_toJobS.l0, not_lt_end, if_false, L_const, List.length_nil, List.replicate_zero]
    simp
  | cons x r ih =>
    intro pre hb
    rw [L_shift]
    have hl : pre.length < 4611686018427387904 := by simp at hb; omega
    have e : rd_T51 (pre ++ x :: r) (pre.length : Int) = x := getD_mid pre x r _
    have e2 : ((pre.length : Int) < ((pre.map toJobP ++ z49 :: List.replicate r.length z49).length : Int)) = True := by
      simp only [List.length_append, List.length_cons, List.length_map]
      exact eq_true (by omega)
    simp only [laws_toJobS.l0, laws_toJob.f, lt_mid, le_nat, if_true, rep_succ, e, e2, wrap_mid pre x hl, Option.bind_some, set_mid (pre.map toJobP) _ _ _ pre (by simp)]
    have := ih (pre ++ [x]) (by simpa using hb)
    simpa [toJobP] using this
theorem toJobS_L (l : List S51) (h : l.length ≤ 1048576) : L (fun k => laws_toJobS.f k l) = some (l.map toJobP) := by
  simp only [laws_toJobS.f, le_nat, if_true, Int.toNat_natCast, if_pos (show l.length ≤ 8796093022208 by omega)]
  exact toJobS_l l [] (by simp; omega)
theorem eqJobS_l (r : List S49) : ∀ pre : List S49, (pre ++ r).length < 4611686018427387904 → L (fun k => laws_eqJobS.l0 k (pre ++ r) (pre ++ r) (pre.length : Int)) = some true := by
  induction r with
  | nil =>
    intro pre hb
    rw [L_shift]
    simp only [laws_eqJobS.l0, not_lt_end, if_false, L_const]
  | cons x r ih =>
    intro pre hb
    rw [L_shift]
    have hl : pre.length < 4611686018427387904 := by simp at hb; omega
    simp only [laws_eqJobS.l0, laws_eqJob.f, lt_mid, le_nat, if_true, wrap_mid pre x hl, Option.bind_some]
    rw [app_cons pre x r]
    exact ih (pre ++ [x]) (by simpa using hb)
theorem eqJobS_L (l : List S49) (h : l.length ≤ 1048576) : L (fun k => laws_eqJobS.f k l l) = some true := by
  simp only [laws_eqJobS.f, if_true]
  exact eqJobS_l l [] (by simp; omega)
/-- The numbers from v on, as many as a list has. -/
def countI {α : Type} : Int → List α → List Int
  | _, [] => []
  | v, _ :: r => v :: countI (v + 1) r
theorem markIntS_l (r : List Int) : ∀ (pre : List Int) (v : Int), (pre ++ r).length < 4611686018427387904 → 0 ≤ v → v + r.length < 9223372036854775807 → L (fun k => laws_markIntS.l0 k (pre ++ r) v (pre.length : Int)) = some (v + r.length, pre ++ countI v r) := by
  induction r with
  | nil =>
    intro pre v hb h0 h1
    rw [L_shift]
    simp only [laws_markIntS.l0, not_lt_end, if_false, L_const]
    simp [countI]
  | cons x r ih =>
    intro pre v hb h0 h1
    rw [L_shift]
    have hl : pre.length < 4611686018427387904 := by simp at hb; omega
    simp only [List.length_cons] at h1
    simp only [laws_markIntS.l0, lt_mid, le_nat, if_true, wrap_mid pre v hl, set_mid pre x v r pre rfl, wrap_id (show -9223372036854775808 ≤ v + 1 by omega) (show v + 1 ≤ 9223372036854775807 by omega)]
    rw [app_cons pre v r, ih (pre ++ [v]) (v + 1) (by simpa using hb) (by omega) (by omega)]
    simp only [countI, List.length_cons, Option.some.injEq, Prod.mk.injEq]
    exact ⟨by omega, by simp⟩
theorem markIntS_L (l : List Int) (v : Int) (h : l.length ≤ 1048576) (h0 : 0 ≤ v) (h1 : v ≤ 9000000000000000000) : L (fun k => laws_markIntS.f k l v) = some (v + l.length, countI v l) := by
  have := markIntS_l l [] v (by simp; omega) h0 (by omega)
  simpa [laws_markIntS.f] using this
theorem heldIntS_l {α : Type} (r : List α) : ∀ (pre : List Int) (v : Int), (pre.length + r.length) < 4611686018427387904 → 0 ≤ v → v + r.length < 9223372036854775807 → L (fun k => laws_heldIntS.l0 k (pre ++ countI v r) v (pre.length : Int)) = some (v + r.length) := by
  induction r with
  | nil =>
    intro pre v hb h0 h1
    rw [L_shift]
    simp only [laws_heldIntS.l0, countI, not_lt_end, if_false, L_const]
    simp
  | cons x r ih =>
    intro pre v hb h0 h1
    rw [L_shift]
    simp only [List.length_cons] at h1 hb
    have hl : pre.length < 4611686018427387904 := by omega
    simp only [laws_heldIntS.l0, countI, lt_mid, le_nat, if_true, rd_mid, wrap_mid pre v hl, wrap_id (show -9223372036854775808 ≤ v + 1 by omega) (show v + 1 ≤ 9223372036854775807 by omega)]
    rw [app_cons pre v (countI _ r), ih (pre ++ [v]) (v + 1) (by simp; omega) (by omega) (by omega)]
    simp only [List.length_cons, Option.some.injEq]
    omega
theorem heldIntS_L {α : Type} (l : List α) (v : Int) (h : l.length ≤ 1048576) (h0 : 0 ≤ v) (h1 : v ≤ 9000000000000000000) : L (fun k => laws_heldIntS.f k (countI v l) v) = some (v + l.length) := by
  have := heldIntS_l l [] v (by simp; omega) h0 (by omega)
  simpa [laws_heldIntS.f] using this
def countJ : Int → List S49 → List S49
  | _, [] => []
  | v, _ :: r => ⟨v, v + 1, v + 1 + 1, v + 1 + 1 + 1⟩ :: countJ (v + 1 + 1 + 1 + 1) r
theorem markJobS_l (r : List S49) : ∀ (pre : List S49) (v : Int), (pre ++ r).length < 4611686018427387904 → 0 ≤ v → v + 4 * r.length < 9223372036854775807 → L (fun k => laws_markJobS.l0 k (pre ++ r) v (pre.length : Int)) = some (v + 4 * r.length, pre ++ countJ v r) := by
  induction r with
  | nil =>
    intro pre v hb h0 h1
    rw [L_shift]
    simp only [laws_markJobS.l0, not_lt_end, if_false, L_const]
    simp [countJ]
  | cons x r ih =>
    intro pre v hb h0 h1
    rw [L_shift]
    have hl : pre.length < 4611686018427387904 := by simp at hb; omega
    simp only [List.length_cons] at h1
    have e : ∀ y, rd_T49 (pre ++ y :: r) (pre.length : Int) = y := fun y => getD_mid pre y r _
    have es : ∀ y z, (pre ++ y :: r).set (pre.length : Int).toNat z = pre ++ z :: r := fun y z => set_mid pre y z r pre rfl
    simp only [laws_markJobS.l0, lt_mid, le_nat, if_true, Option.bind_some, e, es, wrap_mid pre x hl, wrap_id (show -9223372036854775808 ≤ v + 1 by omega) (show v + 1 ≤ 9223372036854775807 by omega), wrap_id (show -9223372036854775808 ≤ v + 1 + 1 by omega) (show v + 1 + 1 ≤ 9223372036854775807 by omega), wrap_id (show -9223372036854775808 ≤ v + 1 + 1 + 1 by omega) (show v + 1 + 1 + 1 ≤ 9223372036854775807 by omega), wrap_id (show -9223372036854775808 ≤ v + 1 + 1 + 1 + 1 by omega) (show v + 1 + 1 + 1 + 1 ≤ 9223372036854775807 by omega)]
    have := ih (pre ++ [⟨v, v + 1, v + 1 + 1, v + 1 + 1 + 1⟩]) (v + 1 + 1 + 1 + 1) (by simpa using hb) (by omega) (by omega)
    simp only [List.append_assoc, List.cons_append, List.nil_append, List.length_append, List.length_cons, List.length_nil] at this ⊢
    rw [this]
    simp only [countJ, Option.some.injEq, Prod.mk.injEq]
    exact ⟨by omega, by first | rfl | trivial⟩
theorem markJobS_L (l : List S49) (v : Int) (h : l.length ≤ 1048576) (h0 : 0 ≤ v) (h1 : v ≤ 9000000000000000000) : L (fun k => laws_markJobS.f k l v) = some (v + 4 * l.length, countJ v l) := by
  have := markJobS_l l [] v (by simp; omega) h0 (by omega)
  simpa [laws_markJobS.f] using this
theorem ite_and (b c : Bool) : (if b = true then some c else some false) = some (b && c) := by cases b <;> rfl
theorem ite_not_and (b c : Bool) : (if b = true then some false else some c) = some (!b && c) := by cases b <;> rfl
theorem bind_self {α : Type} (o : Option α) : (o.bind fun t => some t) = o := by cases o <;> rfl
def inB (a lo hi : Int) : Bool := decide (lo ≤ a) && decide (a ≤ hi)
theorem inB_iff {a lo hi : Int} : inB a lo hi = true ↔ lo ≤ a ∧ a ≤ hi := by simp [inB]
theorem within_e (a lo hi : Int) : impl_within.f a lo hi = some (inB a lo hi) := by
  unfold impl_within.f inB
  by_cases h : lo ≤ a <;> simp [h]
theorem l1In_e (a lo hi : Int) : spec_l1In.f a lo hi = some (inB a lo hi) := by
  unfold spec_l1In.f inB
  by_cases h : lo ≤ a <;> simp [h]
theorem mx_e (a b : Int) : mx a b = max a b := by
  unfold mx
  omega
theorem l1Most_e (a b : Int) : spec_l1Most.f a b = some (max a b) := by
  unfold spec_l1Most.f
  by_cases h : a > b
  · rw [if_pos h]
    congr 1
    omega
  · rw [if_neg h]
    congr 1
    omega
theorem l1Has_l (x : Int) (r : List Int) : ∀ pre : List Int, (pre ++ r).length < 4611686018427387904 → L (fun k => spec_l1Has.l0 k (pre ++ r) x (pre.length : Int)) = some (decide (x ∈ r)) := by
  induction r with
  | nil =>
    intro pre hb
    rw [L_shift]
    simp only [spec_l1Has.l0, not_lt_end, if_false, L_const]
    simp
  | cons y r ih =>
    intro pre hb
    rw [L_shift]
    have hl : pre.length < 4611686018427387904 := by simp at hb; omega
    simp only [spec_l1Has.l0, lt_mid, le_nat, if_true, rd_mid, wrap_mid pre y hl, L_ite, L_const]
    rw [app_cons pre y r, ih (pre ++ [y]) (by simpa using hb)]
    by_cases h : y = x
    · subst h
      simp
    · rw [if_neg h]
      have : ¬ x = y := fun e => h e.symm
      simp [this]
theorem l1Has_L (l : List Int) (x : Int) (h : l.length < 4611686018427387904) : L (fun k => spec_l1Has.f k l x) = some (decide (x ∈ l)) := l1Has_l x l [] (by simpa using h)
theorem has_l (x : Int) (r : List Int) : ∀ pre : List Int, (pre ++ r).length < 4611686018427387904 → L (fun k => impl_has.l0 k x (pre ++ r) ((pre ++ r).length : Int) (pre.length : Int)) = some (decide (x ∈ r)) := by
  induction r with
  | nil =>
    intro pre hb
    rw [L_shift]
    simp only [impl_has.l0, not_lt_end, if_false, L_const]
    simp
  | cons y r ih =>
    intro pre hb
    rw [L_shift]
    have hl : pre.length < 4611686018427387904 := by simp at hb; omega
    simp only [impl_has.l0, lt_mid, le_nat, if_true, rd_mid, wrap_mid pre y hl, L_ite, L_const]
    rw [app_cons pre y r, ih (pre ++ [y]) (by simpa using hb)]
    by_cases h : y = x
    · subst h
      simp
    · rw [if_neg h]
      have : ¬ x = y := fun e => h e.symm
      simp [this]
theorem has_L (l : List Int) (x : Int) (h : l.length < 4611686018427387904) : L (fun k => impl_has.f k l x) = some (decide (x ∈ l)) := has_l x l [] (by simpa using h)
theorem perm_of : ∀ (a b : List Int), a.Nodup → (∀ x ∈ a, x ∈ b) → b.length ≤ a.length → a.Perm b
  | [], b, _, _, hl => by
    have : b = [] := List.length_eq_zero_iff.1 (by simpa using hl)
    rw [this]
  | x :: a, b, hn, hs, hl => by
    have hx : x ∈ b := hs x List.mem_cons_self
    have hn' := List.nodup_cons.1 hn
    have hp := List.perm_cons_erase hx
    have h1 : (b.erase x).length ≤ a.length := by
      have := List.length_erase_of_mem hx
      simp at hl
      omega
    have h2 : ∀ y ∈ a, y ∈ b.erase x := fun y hy => (List.mem_erase_of_ne (by rintro rfl; exact hn'.1 hy)).2 (hs y (List.mem_cons_of_mem _ hy))
    exact ((perm_of a (b.erase x) hn'.2 h2 h1).cons x).trans hp.symm
def numsTo (n : Nat) : List Int := (List.range n).map (fun i : Nat => (i : Int))
theorem numsTo_length (n : Nat) : (numsTo n).length = n := by simp [numsTo]
theorem mem_numsTo {n : Nat} {x : Int} : x ∈ numsTo n ↔ 0 ≤ x ∧ x < n := by
  simp only [numsTo, List.mem_map, List.mem_range]
  constructor
  · rintro ⟨i, hi, rfl⟩
    omega
  · intro h
    exact ⟨x.toNat, by omega, by omega⟩
theorem numsTo_nodup (n : Nat) : (numsTo n).Nodup := by
  unfold numsTo
  exact List.Pairwise.map _ (fun a b h => by omega) List.nodup_range
/-- Different numbers of n things, none of them in pre. -/
def diffB (n : Int) : List Int → List Int → Bool
  | _, [] => true
  | pre, x :: r => inB x 0 (n - 1) && (!decide (x ∈ pre) && diffB n (pre ++ [x]) r)
theorem diffB_iff (n : Int) : ∀ (r pre : List Int), diffB n pre r = true ↔ (∀ x ∈ r, 0 ≤ x ∧ x < n) ∧ r.Nodup ∧ ∀ x ∈ r, x ∉ pre
  | [], pre => by simp [diffB]
  | x :: r, pre => by
    rw [diffB, Bool.and_eq_true, Bool.and_eq_true, inB_iff, diffB_iff n r (pre ++ [x])]
    simp only [Bool.not_eq_true', decide_eq_false_iff_not, List.mem_cons, List.nodup_cons, List.mem_append, List.not_mem_nil, or_false, not_or]
    constructor
    · rintro ⟨h1, h2, h3, h4, h5⟩
      refine ⟨?_, ⟨fun hx => (h5 x hx).2 rfl, h4⟩, ?_⟩
      · rintro y (rfl | hy)
        · omega
        · exact h3 y hy
      · rintro y (rfl | hy)
        · exact h2
        · exact (h5 y hy).1
    · rintro ⟨h1, ⟨h2, h3⟩, h4⟩
      exact ⟨⟨(h1 x (.inl rfl)).1, by have := (h1 x (.inl rfl)).2; omega⟩, h4 x (.inl rfl), fun y hy => h1 y (.inr hy), h3, fun y hy => ⟨h4 y (.inr hy), fun e => h2 (e ▸ hy)⟩⟩
/-- An order of n jobs. -/
def orderB (n : Nat) (l : List Int) : Bool := decide ((l.length : Int) = n) && diffB n [] l
def IsOrd (n : Nat) (l : List Int) : Prop := l.length = n ∧ (∀ x ∈ l, 0 ≤ x ∧ x < n) ∧ l.Nodup
theorem orderB_iff {n : Nat} {l : List Int} : orderB n l = true ↔ IsOrd n l := by
  simp only [orderB, Bool.and_eq_true, decide_eq_true_eq, diffB_iff, IsOrd]
  constructor
  · rintro ⟨h, h1, h2, _⟩
    exact ⟨by omega, h1, h2⟩
  · rintro ⟨h, h1, h2⟩
    exact ⟨by omega, h1, h2, by simp⟩
theorem IsOrd.perm {n : Nat} {l : List Int} (h : IsOrd n l) : l.Perm (numsTo n) := perm_of l _ h.2.2 (fun x hx => mem_numsTo.2 (h.2.1 x hx)) (by rw [numsTo_length, h.1]; exact Nat.le_refl _)
theorem IsOrd.of_perm {n : Nat} {l : List Int} (h : l.Perm (numsTo n)) : IsOrd n l := ⟨by rw [h.length_eq, numsTo_length], fun x hx => mem_numsTo.1 (h.mem_iff.1 hx), h.nodup_iff.2 (numsTo_nodup n)⟩
theorem IsOrd.mem {n : Nat} {l : List Int} (h : IsOrd n l) {x : Int} : x ∈ l ↔ 0 ≤ x ∧ x < n := by rw [h.perm.mem_iff, mem_numsTo]
theorem isOrd_all {n : Nat} {l : List Int} (hl : l.length = n) (h : ∀ j : Nat, j < n → (j : Int) ∈ l) : IsOrd n l :=
  IsOrd.of_perm (perm_of _ l (numsTo_nodup n) (fun x hx => by
    obtain ⟨h0, h1⟩ := mem_numsTo.1 hx
    have := h x.toNat (by omega)
    rwa [Int.toNat_of_nonneg h0] at this) (by rw [numsTo_length, hl]; exact Nat.le_refl _)).symm
theorem l2Order_l (n : Nat) (l : List Int) (hn : n ≤ 1048576) (hl : l.length < 4611686018427387904) : ∀ (d i : Nat), i + d = n → L (fun k => spec_l2Order.l0 k (n : Int) l (i : Int)) = some (decide (∀ j : Nat, j < n → i ≤ j → (j : Int) ∈ l))
  | 0, i, hi => by
    rw [L_shift]
    simp only [spec_l2Order.l0, if_neg (show ¬ ((i : Int) < (n : Int)) by omega), L_const]
    congr 1
    symm
    rw [decide_eq_true_eq]
    intro j h1 h2
    omega
  | d + 1, i, hi => by
    rw [L_shift]
    have e : wrap64 ((i : Int) + 1) = ((i + 1 : Nat) : Int) := by
      rw [wrap_id (by omega) (by omega)]
      omega
    simp only [spec_l2Order.l0, if_pos (show ((i : Int) < (n : Int)) by omega), L_bind, l1Has_L l _ hl, Option.bind_some, e, L_ite, L_const]
    rw [l2Order_l n l hn hl d (i + 1) (by omega), ite_and]
    congr 1
    rw [← Bool.decide_and]
    apply decide_eq_decide.2
    constructor
    · rintro ⟨h1, h2⟩ j h4 h3
      rcases Nat.eq_or_lt_of_le h3 with rfl | h5
      · exact h1
      · exact h2 j h4 h5
    · intro h
      exact ⟨h i (by omega) (Nat.le_refl _), fun j h4 h3 => h j h4 (by omega)⟩
theorem l2Order_L (n : Nat) (l : List Int) (hn : n ≤ 1048576) (hl : l.length < 4611686018427387904) : L (fun k => spec_l2Order.f k (n : Int) l) = some (decide (n ≤ 8) && orderB n l) := by
  have hj : ∀ b : Bool, L (fun k => spec_l2Order.j0 k (n : Int) l b) = some (!b && decide (∀ j : Nat, j < n → (j : Int) ∈ l)) := by
    intro b
    rw [L_shift]
    simp only [spec_l2Order.j0, L_ite, L_const]
    rw [show ((0 : Int)) = ((0 : Nat) : Int) from rfl]
    rw [l2Order_l n l hn hl n 0 (by omega), ite_not_and]
    simp
  simp only [spec_l2Order.f, l1In_e, Option.bind_some, L_ite, hj]
  by_cases h8 : n ≤ 8
  · rw [if_pos (by rw [inB_iff]; omega)]
    simp only [h8, decide_true, Bool.true_and]
    congr 1
    by_cases hl2 : l.length = n
    · have e : ((l.length : Int) != (n : Int)) = false := by rw [hl2]; simp
      rw [e]
      simp only [Bool.not_false, Bool.true_and]
      by_cases h : ∀ j : Nat, j < n → (j : Int) ∈ l
      · rw [decide_eq_true h, orderB_iff.2 (isOrd_all hl2 h)]
      · rw [decide_eq_false h]
        symm
        rw [Bool.eq_false_iff]
        intro ho
        exact h (fun j hj => (orderB_iff.1 ho).mem.2 (by omega))
    · have e : ((l.length : Int) != (n : Int)) = true := by simp; omega
      rw [e]
      simp only [Bool.not_true, Bool.false_and]
      symm
      rw [Bool.eq_false_iff]
      intro ho
      exact hl2 (orderB_iff.1 ho).1
  · rw [if_neg (by rw [inB_iff]; omega)]
    simp [h8]
theorem isNumber_e (a n : Int) (h0 : -9223372036854775807 ≤ n) (h1 : n ≤ 9223372036854775807) : impl_isNumber.f a n = some (inB a 0 (n - 1)) := by
  simp only [impl_isNumber.f, within_e, Option.bind_some]
  rw [wrap_id (by omega) (by omega)]
theorem take_mid {α : Type} (pre : List α) (r : List α) : (pre ++ r).take (pre.length : Int).toNat = pre := by simp
theorem areDifferent_l (n : Nat) (hn : n ≤ 1048576) (r : List Int) : ∀ pre : List Int, (pre ++ r).length < 4611686018427387904 → L (fun k => impl_areDifferent.l0 k (n : Int) (pre ++ r) (pre ++ r) ((pre ++ r).length : Int) (pre.length : Int)) = some (diffB n pre r) := by
  induction r with
  | nil =>
    intro pre hb
    rw [L_shift]
    simp only [impl_areDifferent.l0, not_lt_end, if_false, L_const]
    simp [diffB]
  | cons x r ih =>
    intro pre hb
    rw [L_shift]
    have hl : pre.length < 4611686018427387904 := by simp at hb; omega
    have e : ((pre.length : Int) ≤ ((pre ++ x :: r).length : Int)) = True := eq_true (by simp; omega)
    simp only [impl_areDifferent.l0, lt_mid, le_nat, if_true, rd_mid, wrap_mid pre x hl, isNumber_e x (n : Int) (by omega) (by omega), Option.bind_some, e, take_mid, L_ite, L_bind, has_L pre x hl, L_const]
    rw [app_cons pre x r, ih (pre ++ [x]) (by simpa using hb), ite_not_and, ite_and]
    rfl
theorem areDifferent_L (n : Nat) (l : List Int) (hn : n ≤ 1048576) (hl : l.length < 4611686018427387904) : L (fun k => impl_areDifferent.f k (n : Int) l) = some (diffB n [] l) := areDifferent_l n hn l [] (by simpa using hl)
theorem isOrder_L (n : Nat) (l : List Int) (hn : n ≤ 1048576) (hl : l.length < 4611686018427387904) : L (fun k => impl_isOrder.f k (n : Int) l) = some (orderB n l) := by
  simp only [impl_isOrder.f, bind_self, L_ite, areDifferent_L n l hn hl, L_const, orderB]
  by_cases h : (l.length : Int) = n <;> simp [h]
def jobB (j : S49) : Bool := inB j.f0 1 50 && (inB j.f1 0 50 && (inB j.f2 0 500 && inB j.f3 0 500))
def goodB (l : List S49) : Bool := l.all jobB && decide ((l.length : Int) ≤ 8)
structure JobOk (j : S49) : Prop where
  t0 : 1 ≤ j.f0
  t1 : j.f0 ≤ 50
  w0 : 0 ≤ j.f1
  w1 : j.f1 ≤ 50
  r0 : 0 ≤ j.f2
  r1 : j.f2 ≤ 500
  d0 : 0 ≤ j.f3
  d1 : j.f3 ≤ 500
def Good (l : List S49) : Prop := l.length ≤ 8 ∧ ∀ j ∈ l, JobOk j
theorem goodB_iff {l : List S49} : goodB l = true ↔ Good l := by
  simp only [goodB, Good, Bool.and_eq_true, List.all_eq_true, decide_eq_true_eq, jobB, inB_iff]
  constructor
  · rintro ⟨h, hl⟩
    exact ⟨by omega, fun j hj => by
      obtain ⟨⟨a, b⟩, ⟨c, d⟩, ⟨e, f⟩, g, i⟩ := h j hj
      exact ⟨a, b, c, d, e, f, g, i⟩⟩
  · rintro ⟨hl, h⟩
    exact ⟨fun j hj => ⟨⟨(h j hj).t0, (h j hj).t1⟩, ⟨(h j hj).w0, (h j hj).w1⟩, ⟨(h j hj).r0, (h j hj).r1⟩, (h j hj).d0, (h j hj).d1⟩, by omega⟩
theorem l2Job_e (j : S49) : spec_l2Job.f j.f0 j.f1 j.f2 j.f3 = some (jobB j) := by
  simp only [spec_l2Job.f, l1In_e, Option.bind_some, ite_and, jobB]
theorem l2Good_l (r : List S49) : ∀ pre : List S49, (pre ++ r).length < 4611686018427387904 → L (fun k => spec_l2Good.l0 k (pre ++ r) (pre.length : Int)) = some (r.all jobB && decide (((pre ++ r).length : Int) ≤ 8)) := by
  induction r with
  | nil =>
    intro pre hb
    rw [L_shift]
    simp only [spec_l2Good.l0, not_lt_end, if_false, L_const]
    simp
  | cons x r ih =>
    intro pre hb
    rw [L_shift]
    have hl : pre.length < 4611686018427387904 := by simp at hb; omega
    have e : rd_T49 (pre ++ x :: r) (pre.length : Int) = x := getD_mid pre x r _
    simp only [spec_l2Good.l0, lt_mid, le_nat, if_true, e, wrap_mid pre x hl, l2Job_e, Option.bind_some, L_ite, L_const]
    rw [app_cons pre x r, ih (pre ++ [x]) (by simpa using hb), ite_and]
    rw [List.all_cons, Bool.and_assoc]
theorem l2Good_L (l : List S49) (h : l.length < 4611686018427387904) : L (fun k => spec_l2Good.f k l) = some (goodB l) := by
  have := l2Good_l l [] (by simpa using h)
  simpa [goodB, spec_l2Good.f] using this
theorem isDate_e (n : Int) : impl_isDate.f n = some (inB n 0 500) := by
  simp only [impl_isDate.f, within_e, Option.bind_some]
theorem IsJobs_l (r : List S49) : ∀ pre : List S49, (pre ++ r).length < 4611686018427387904 → L (fun k => impl_IsJobs.l0 k (pre ++ r) ((pre ++ r).length : Int) (pre.length : Int)) = some (r.all jobB) := by
  induction r with
  | nil =>
    intro pre hb
    rw [L_shift]
    simp only [impl_IsJobs.l0, not_lt_end, if_false, L_const]
    simp
  | cons x r ih =>
    intro pre hb
    rw [L_shift]
    have hl : pre.length < 4611686018427387904 := by simp at hb; omega
    have e : rd_T49 (pre ++ x :: r) (pre.length : Int) = x := getD_mid pre x r _
    simp only [impl_IsJobs.l0, lt_mid, le_nat, if_true, e, wrap_mid pre x hl, within_e, isDate_e, Option.bind_some, L_ite, L_const]
    rw [app_cons pre x r, ih (pre ++ [x]) (by simpa using hb)]
    simp only [ite_and, List.all_cons, jobB, Bool.and_assoc]
theorem IsJobs_L (l : List S49) (h : l.length < 4611686018427387904) : L (fun k => impl_IsJobs.f k l) = some (goodB l) := by
  have := IsJobs_l l [] (by simpa using h)
  simp only [List.nil_append, List.length_nil, Int.natCast_zero] at this
  simp only [impl_IsJobs.f, L_ite, L_const, this, goodB]
  by_cases h8 : (l.length : Int) ≤ 8
  · rw [if_neg (by omega)]
    simp [h8]
  · rw [if_pos (by omega)]
    simp [h8]
def jobAt (l : List S49) (x : Int) : S49 := l.getD x.toNat z49
theorem jobAt_mem {l : List S49} {x : Int} (h0 : 0 ≤ x) (h1 : x < l.length) : jobAt l x ∈ l := by
  unfold jobAt
  rw [List.getD_eq_getElem?_getD, List.getElem?_eq_getElem (by omega)]
  exact List.getElem_mem _
/-- The ends, put into out by the jobs' numbers. -/
def endsF (l : List S49) : List Int → List Int → Int → List Int
  | [], out, _ => out
  | x :: r, out, now => endsF l r (out.set x.toNat (max now (jobAt l x).f2 + (jobAt l x).f0)) (max now (jobAt l x).f2 + (jobAt l x).f0)
def startsF (l : List S49) : List Int → List Int → Int → List Int
  | [], out, _ => out
  | x :: r, out, now => startsF l r (out.set x.toNat (max now (jobAt l x).f2)) (max now (jobAt l x).f2 + (jobAt l x).f0)
def endsP (l : List S49) (o : List Int) : List Int := endsF l o (List.replicate l.length 0) 0
def startsP (l : List S49) (o : List Int) : List Int := startsF l o (List.replicate l.length 0) 0
theorem endsF_length (l : List S49) : ∀ (o out : List Int) (now : Int), (endsF l o out now).length = out.length
  | [], out, now => rfl
  | x :: r, out, now => by rw [endsF, endsF_length l r, List.length_set]
theorem startsF_length (l : List S49) : ∀ (o out : List Int) (now : Int), (startsF l o out now).length = out.length
  | [], out, now => rfl
  | x :: r, out, now => by rw [startsF, startsF_length l r, List.length_set]
theorem endsP_length (l : List S49) (o : List Int) : (endsP l o).length = l.length := by rw [endsP, endsF_length, List.length_replicate]
theorem startsP_length (l : List S49) (o : List Int) : (startsP l o).length = l.length := by rw [startsP, startsF_length, List.length_replicate]
theorem ends_starts (l : List S49) : ∀ (o E S : List Int) (now : Int), E.length = l.length → S.length = l.length → (∀ x ∈ o, 0 ≤ x ∧ x < (l.length : Int)) →
    ∀ j : Nat, j < l.length → ((j : Int) ∈ o ∨ E.getD j 0 = S.getD j 0 + (l.getD j z49).f0) → (endsF l o E now).getD j 0 = (startsF l o S now).getD j 0 + (l.getD j z49).f0
  | [], E, S, now, _, _, _, j, _, h => by
    rcases h with h | h
    · cases h
    · exact h
  | x :: r, E, S, now, hE, hS, hx, j, hj, h => by
    rw [endsF, startsF]
    refine ends_starts l r _ _ _ (by rw [List.length_set, hE]) (by rw [List.length_set, hS]) (fun y hy => hx y (List.mem_cons_of_mem _ hy)) j hj ?_
    have hx0 := hx x List.mem_cons_self
    by_cases hr : (j : Int) ∈ r
    · exact .inl hr
    · right
      rw [getD_set, getD_set, hE, hS]
      by_cases e : x.toNat = j
      · rw [if_pos ⟨e, hj⟩, if_pos ⟨e, hj⟩]
        unfold jobAt
        rw [e]
      · rw [if_neg (fun h => e h.1), if_neg (fun h => e h.1)]
        rcases h with h | h
        · rcases List.mem_cons.1 h with h | h
          · exact absurd (by omega) e
          · exact absurd h hr
        · exact h
theorem ends_bounds (l : List S49) (hg : Good l) : ∀ (o E : List Int) (now : Int), 0 ≤ now → now ≤ 500 + 50 * (8 - o.length : Int) → o.length ≤ 8 → (∀ x ∈ o, 0 ≤ x ∧ x < (l.length : Int)) → (∀ v ∈ E, 0 ≤ v ∧ v ≤ 900) → ∀ v ∈ endsF l o E now, 0 ≤ v ∧ v ≤ 900
  | [], E, now, _, _, _, _, hE => hE
  | x :: r, E, now, h0, h1, hl, hx, hE => by
    rw [endsF]
    have hx0 := hx x List.mem_cons_self
    have hj := hg.2 _ (jobAt_mem hx0.1 hx0.2)
    have a0 := hj.t0
    have a1 := hj.t1
    have a2 := hj.r0
    have a3 := hj.r1
    simp only [List.length_cons] at h1 hl
    refine ends_bounds l hg r _ _ (by omega) (by omega) (by omega) (fun y hy => hx y (List.mem_cons_of_mem _ hy)) (fun v hv => ?_)
    rcases List.mem_or_eq_of_mem_set hv with h | h
    · exact hE v h
    · rw [h]
      omega
theorem endsP_bounds {l : List S49} {o : List Int} (hg : Good l) (ho : IsOrd l.length o) : ∀ v ∈ endsP l o, 0 ≤ v ∧ v ≤ 900 :=
  ends_bounds l hg o _ 0 (by omega) (by have := ho.1; have := hg.1; omega) (by have := ho.1; have := hg.1; omega) ho.2.1 (fun v hv => by rw [(List.mem_replicate.1 hv).2]; omega)
theorem endsP_starts {l : List S49} {o : List Int} (ho : IsOrd l.length o) (j : Nat) (hj : j < l.length) : (endsP l o).getD j 0 = (startsP l o).getD j 0 + (l.getD j z49).f0 :=
  ends_starts l o _ _ 0 (by simp) (by simp) ho.2.1 j hj (.inl (ho.mem.2 ⟨by omega, by omega⟩))
theorem endsOf_l (l : List S49) (hg : Good l) (r : List Int) (hx : ∀ x ∈ r, 0 ≤ x ∧ x < (l.length : Int)) : ∀ (pre E : List Int) (now : Int), (pre ++ r).length < 4611686018427387904 → E.length = l.length → 0 ≤ now → now + 50 * r.length ≤ 900 → r.length ≤ 8 →
    L (fun k => impl_endsOf.l0 k l E now (pre ++ r) ((pre ++ r).length : Int) (pre.length : Int)) = some (endsF l r E now) := by
  induction r with
  | nil =>
    intro pre E now hb _ _ _ _
    rw [L_shift]
    simp only [impl_endsOf.l0, not_lt_end, if_false, L_const, endsF]
  | cons x r ih =>
    intro pre E now hb hE h0 h1 h2
    rw [L_shift]
    have hl : pre.length < 4611686018427387904 := by simp at hb; omega
    have hx0 := hx x List.mem_cons_self
    have hj := hg.2 _ (jobAt_mem hx0.1 hx0.2)
    have a0 := hj.t0
    have a1 := hj.t1
    have a2 := hj.r0
    have a3 := hj.r1
    simp only [List.length_cons] at h1 h2
    have e : rd_T49 l x = jobAt l x := rfl
    simp only [impl_endsOf.l0, lt_mid, le_nat, if_true, rd_mid, wrap_mid pre x hl, e, mx_e, if_pos hx0.1, if_pos hx0.2, if_pos (show x < (E.length : Int) by omega), wrap_id (show -9223372036854775808 ≤ max now (jobAt l x).f2 + (jobAt l x).f0 by omega) (show max now (jobAt l x).f2 + (jobAt l x).f0 ≤ 9223372036854775807 by omega)]
    rw [app_cons pre x r, endsF]
    exact ih (fun y hy => hx y (List.mem_cons_of_mem _ hy)) (pre ++ [x]) _ _ (by simpa using hb) (by rw [List.length_set, hE]) (by omega) (by omega) (by omega)
theorem endsOf_L (l : List S49) (o : List Int) (hg : Good l) (ho : IsOrd l.length o) : L (fun k => impl_endsOf.f k l o) = some (endsP l o) := by
  have h8 := hg.1
  have hl := ho.1
  simp only [impl_endsOf.f, le_nat, if_true, Int.toNat_natCast, if_pos (show l.length ≤ 35184372088832 by omega)]
  exact endsOf_l l hg o ho.2.1 [] _ 0 (by simp; omega) (by simp) (by omega) (by omega) (by omega)
theorem l2Starts_l (l : List S49) (hg : Good l) (r : List Int) (hx : ∀ x ∈ r, 0 ≤ x ∧ x < (l.length : Int)) : ∀ (pre E : List Int) (now : Int), (pre ++ r).length < 4611686018427387904 → E.length = l.length → 0 ≤ now → now + 50 * r.length ≤ 900 → r.length ≤ 8 →
    L (fun k => spec_l2Starts.l0 k l (pre ++ r) E now (pre.length : Int)) = some (startsF l r E now) := by
  induction r with
  | nil =>
    intro pre E now hb _ _ _ _
    rw [L_shift]
    simp only [spec_l2Starts.l0, not_lt_end, if_false, L_const, startsF]
  | cons x r ih =>
    intro pre E now hb hE h0 h1 h2
    rw [L_shift]
    have hl : pre.length < 4611686018427387904 := by simp at hb; omega
    have hx0 := hx x List.mem_cons_self
    have hj := hg.2 _ (jobAt_mem hx0.1 hx0.2)
    have a0 := hj.t0
    have a1 := hj.t1
    have a2 := hj.r0
    have a3 := hj.r1
    simp only [List.length_cons] at h1 h2
    have e : rd_T49 l x = jobAt l x := rfl
    have e2 : rd (E.set x.toNat (max now (jobAt l x).f2)) x = max now (jobAt l x).f2 := by
      show (E.set x.toNat (max now (jobAt l x).f2)).getD x.toNat 0 = _
      rw [getD_set, if_pos ⟨rfl, by omega⟩]
    simp only [spec_l2Starts.l0, lt_mid, le_nat, if_true, rd_mid, wrap_mid pre x hl, e, l1Most_e, Option.bind_some, e2, if_pos hx0.1, if_pos hx0.2, if_pos (show x < (E.length : Int) by omega), wrap_id (show -9223372036854775808 ≤ max now (jobAt l x).f2 + (jobAt l x).f0 by omega) (show max now (jobAt l x).f2 + (jobAt l x).f0 ≤ 9223372036854775807 by omega)]
    rw [app_cons pre x r, startsF]
    exact ih (fun y hy => hx y (List.mem_cons_of_mem _ hy)) (pre ++ [x]) _ _ (by simpa using hb) (by rw [List.length_set, hE]) (by omega) (by omega) (by omega)
theorem l2Starts_L (l : List S49) (o : List Int) (hg : Good l) (ho : IsOrd l.length o) : L (fun k => spec_l2Starts.f k l o) = some (startsP l o) := by
  have h8 := hg.1
  have hl := ho.1
  simp only [spec_l2Starts.f, le_nat, if_true, Int.toNat_natCast, if_pos (show l.length ≤ 35184372088832 by omega)]
  exact l2Starts_l l hg o ho.2.1 [] _ 0 (by simp; omega) (by simp) (by omega) (by omega) (by omega)
theorem l2Ends_l (l : List S49) (T : List Int) (hT : T.length = l.length) (hB : ∀ j : Nat, j < l.length → -1000000 ≤ T.getD j 0 + (l.getD j z49).f0 ∧ T.getD j 0 + (l.getD j z49).f0 ≤ 1000000) (h8 : l.length ≤ 8) : ∀ (d i : Nat) (S : List Int), i + d = l.length → S.length = l.length →
    (∀ j : Nat, j < l.length → S.getD j 0 = if j < i then T.getD j 0 + (l.getD j z49).f0 else T.getD j 0) →
    ∃ R : List Int, L (fun k => spec_l2Ends.l0 k l S (i : Int)) = some R ∧ R.length = l.length ∧ ∀ j : Nat, j < l.length → R.getD j 0 = T.getD j 0 + (l.getD j z49).f0
  | 0, i, S, hi, hS, h => by
    refine ⟨S, ?_, hS, fun j hj => by rw [h j hj, if_pos (by omega)]⟩
    rw [L_shift]
    simp only [spec_l2Ends.l0, if_neg (show ¬ (i : Int) < (l.length : Int) by omega), L_const]
  | d + 1, i, S, hi, hS, h => by
    rw [L_shift]
    have hb := hB i (by omega)
    have e1 : rd S (i : Int) = T.getD i 0 := by
      show S.getD (i : Int).toNat 0 = _
      rw [Int.toNat_natCast, h i (by omega), if_neg (by omega)]
    have e2 : rd_T49 l (i : Int) = l.getD i z49 := by
      show l.getD (i : Int).toNat z49 = _
      rw [Int.toNat_natCast]
    have e3 : wrap64 ((i : Int) + 1) = ((i + 1 : Nat) : Int) := by
      rw [wrap_id (by omega) (by omega)]
      omega
    simp only [spec_l2Ends.l0, if_pos (show (i : Int) < (l.length : Int) by omega), if_pos (show (i : Int) < (S.length : Int) by omega), le_nat, if_true, e1, e2, e3, Int.toNat_natCast, wrap_id (show -9223372036854775808 ≤ T.getD i 0 + (l.getD i z49).f0 by omega) (by omega)]
    refine l2Ends_l l T hT hB h8 d (i + 1) _ (by omega) (by rw [List.length_set, hS]) (fun j hj => ?_)
    rw [getD_set]
    by_cases e : i = j
    · subst e
      rw [if_pos ⟨rfl, by omega⟩, if_pos (by omega)]
    · rw [if_neg (fun h => e h.1), h j hj]
      by_cases hji : j < i
      · rw [if_pos hji, if_pos (by omega)]
      · rw [if_neg hji, if_neg (by omega)]
theorem l2Ends_L (l : List S49) (o : List Int) (hg : Good l) (ho : IsOrd l.length o) : L (fun k => spec_l2Ends.f k l o) = some (endsP l o) := by
  simp only [spec_l2Ends.f, L_bind, l2Starts_L l o hg ho, Option.bind_some]
  have hb := endsP_bounds hg ho
  obtain ⟨R, h1, h2, h3⟩ := l2Ends_l l (startsP l o) (startsP_length l o) (fun j hj => by
    rw [← endsP_starts ho j hj]
    have := hb _ (getD_mem (l := endsP l o) (j := j) (by rw [endsP_length]; exact hj))
    omega) hg.1 l.length 0 (startsP l o) (by omega) (startsP_length l o) (fun j hj => by rw [if_neg (by omega)])
  rw [show (0 : Int) = ((0 : Nat) : Int) from rfl, h1]
  congr 1
  refine ext_getD (by rw [h2, endsP_length]) (fun j hj => ?_)
  rw [h3 j (by omega), endsP_starts ho j (by omega)]
def maxTo (v : Int) (l : List Int) : Int := l.foldl max v
theorem mul_bd {w e : Int} (w0 : 0 ≤ w) (w1 : w ≤ 50) (e0 : 0 ≤ e) (e1 : e ≤ 2000) : 0 ≤ w * e ∧ w * e ≤ 100000 := by
  have h1 : w * e ≤ 50 * e := Int.mul_le_mul_of_nonneg_right w1 e0
  have h2 : 0 ≤ w * e := Int.mul_nonneg w0 e0
  omega
/-- What a job with an end adds to a value. -/
def addF (v : Int) (j : S49) (e obj : Int) (first : Bool) : Int :=
  if obj = 1 then max v e else if obj = 2 then v + e else if obj = 3 then v + j.f1 * e else if obj = 4 then (if first = true then e - j.f3 else max v (e - j.f3))
  else if obj = 5 then v + max 0 (e - j.f3) else if obj = 6 then v + j.f1 * max 0 (e - j.f3) else if e - j.f3 ≤ 0 then v else if obj = 7 then v + 1 else v + j.f1
theorem addF_bd (v : Int) (j : S49) (e obj : Int) (first : Bool) (hj : JobOk j) (he0 : 0 ≤ e) (he1 : e ≤ 2000) {B : Int} (hB : 0 ≤ B) (hv0 : -B ≤ v) (hv1 : v ≤ B) : -(B + 100000) ≤ addF v j e obj first ∧ addF v j e obj first ≤ B + 100000 := by
  have a2 := hj.d0
  have a3 := hj.d1
  have m1 := mul_bd hj.w0 hj.w1 he0 he1
  have m2 := mul_bd hj.w0 hj.w1 (show 0 ≤ max 0 (e - j.f3) by omega) (by omega)
  have w0 := hj.w0
  have w1 := hj.w1
  unfold addF
  repeat' split
  all_goals omega
theorem add_e (v : Int) (j : S49) (e obj : Int) (first : Bool) (hj : JobOk j) (he0 : 0 ≤ e) (he1 : e ≤ 2000) (hv0 : -1000000000 ≤ v) (hv1 : v ≤ 1000000000) : impl_add.f v j.f0 j.f1 j.f2 j.f3 e obj first = some (addF v j e obj first) := by
  have a2 := hj.d0
  have a3 := hj.d1
  have m1 := mul_bd hj.w0 hj.w1 he0 he1
  have m2 := mul_bd hj.w0 hj.w1 (show 0 ≤ max 0 (e - j.f3) by omega) (by omega)
  have w0 := hj.w0
  have w1 := hj.w1
  unfold impl_add.f addF
  simp only [mx_e]
  rw [wrap_id (show -9223372036854775808 ≤ e - j.f3 by omega) (by omega), wrap_id (show -9223372036854775808 ≤ v + e by omega) (by omega), wrap_id (show -9223372036854775808 ≤ j.f1 * e by omega) (by omega), wrap_id (show -9223372036854775808 ≤ v + j.f1 * e by omega) (by omega), wrap_id (show -9223372036854775808 ≤ v + max 0 (e - j.f3) by omega) (by omega), wrap_id (show -9223372036854775808 ≤ j.f1 * max 0 (e - j.f3) by omega) (by omega), wrap_id (show -9223372036854775808 ≤ v + j.f1 * max 0 (e - j.f3) by omega) (by omega), wrap_id (show -9223372036854775808 ≤ v + 1 by omega) (by omega), wrap_id (show -9223372036854775808 ≤ v + j.f1 by omega) (by omega)]
  repeat' split
  all_goals first | rfl | contradiction
/-- The value of an objective for ends. -/
def valF (obj : Int) : Int → Bool → List S49 → List Int → Int
  | v, _, [], _ => v
  | v, _, _, [] => v
  | v, first, j :: js, e :: es => valF obj (addF v j e obj first) false js es
def valP (obj : Int) (l : List S49) (es : List Int) : Int := valF obj 0 true l es
theorem valueOfEnds_l (obj : Int) (r : List S49) (hr : ∀ j ∈ r, JobOk j) : ∀ (pre : List S49) (pe es : List Int) (v : Int), (pre ++ r).length < 4611686018427387904 → pe.length = pre.length → es.length = r.length → (∀ e ∈ es, 0 ≤ e ∧ e ≤ 2000) → -(100000 * (1000 - r.length : Int)) ≤ v → v ≤ 100000 * (1000 - r.length : Int) → r.length ≤ 100 →
    L (fun k => impl_valueOfEnds.l0 k (pe ++ es) obj v (pre ++ r) ((pre ++ r).length : Int) (pre.length : Int)) = some (valF obj v (decide (pre.length = 0)) r es) := by
  induction r with
  | nil =>
    intro pre pe es v hb hpe hes _ _ _ _
    rw [L_shift]
    simp only [impl_valueOfEnds.l0, not_lt_end, if_false, L_const, valF]
  | cons x r ih =>
    intro pre pe es v hb hpe hes he h0 h1 h2
    match es, hes with
    | y :: es, hes =>
      rw [L_shift]
      have hl : pre.length < 4611686018427387904 := by simp at hb; omega
      have e : rd_T49 (pre ++ x :: r) (pre.length : Int) = x := getD_mid pre x r _
      have e1 : rd (pe ++ y :: es) (pre.length : Int) = y := by rw [← hpe]; exact rd_mid pe y es
      have e2 : ((pre.length : Int) < ((pe ++ y :: es).length : Int)) = True := by rw [← hpe]; exact lt_mid pe y es
      have e3 : ((pre.length : Int) == 0) = decide (pre.length = 0) := by
        by_cases h : pre.length = 0
        · rw [h]; rfl
        · rw [decide_eq_false h]
          simp
          exact fun e => h (by rw [e]; rfl)
      have hx := hr x List.mem_cons_self
      have hy := he y List.mem_cons_self
      simp only [List.length_cons] at h0 h1 h2 hes
      have hbd := addF_bd v x y obj (decide (pre.length = 0)) hx hy.1 hy.2 (B := 100000 * (1000 - (r.length + 1 : Nat) : Int)) (by omega) (by omega) (by omega)
      simp only [impl_valueOfEnds.l0, lt_mid, le_nat, if_true, e, e1, e2, e3, wrap_mid pre x hl, add_e v x y obj _ hx hy.1 hy.2 (by omega) (by omega), Option.bind_some]
      rw [app_cons pre x r, app_cons pe y es, ih (fun j hj => hr j (List.mem_cons_of_mem _ hj)) (pre ++ [x]) (pe ++ [y]) es _ (by simpa using hb) (by simp [hpe]) (by omega) (fun e he' => he e (List.mem_cons_of_mem _ he')) (by omega) (by omega) (by omega), valF]
      simp
theorem valueOfEnds_L (l : List S49) (hg : Good l) (es : List Int) (hes : es.length = l.length) (he : ∀ e ∈ es, 0 ≤ e ∧ e ≤ 2000) (obj : Int) : L (fun k => impl_valueOfEnds.f k l es obj) = some (valP obj l es) := by
  have h8 := hg.1
  have := valueOfEnds_l obj l hg.2 [] [] es 0 (by simp; omega) rfl hes he (by omega) (by omega) (by omega)
  simpa [impl_valueOfEnds.f, valP] using this
theorem valueOf_L (l : List S49) (o : List Int) (hg : Good l) (ho : IsOrd l.length o) (obj : Int) : L (fun k => impl_valueOf.f k l o obj) = some (valP obj l (endsP l o)) := by
  simp only [impl_valueOf.f, bind_self, L_bind, endsOf_L l o hg ho, Option.bind_some]
  exact valueOfEnds_L l hg _ (endsP_length l o) (fun e he => by have := endsP_bounds hg ho e he; omega) obj
def objB (obj : Int) : Bool := inB obj 1 8
theorem isObjective_e (n : Int) : impl_isObjective.f n = some (objB n) := by
  simp only [impl_isObjective.f, within_e, Option.bind_some, objB]
theorem objB_iff {n : Int} : objB n = true ↔ n = 1 ∨ n = 2 ∨ n = 3 ∨ n = 4 ∨ n = 5 ∨ n = 6 ∨ n = 7 ∨ n = 8 := by
  rw [objB, inB_iff]
  omega
theorem l2Objective_e (n : Int) : spec_l2Objective.f n = some (objB n) := by
  simp only [spec_l2Objective.f, l1In_e, Option.bind_some, objB]
theorem l2Cost_e (v : Int) (j : S49) (e obj : Int) (first : Bool) (hj : JobOk j) (he0 : 0 ≤ e) (he1 : e ≤ 2000) (ho : objB obj = true) (h1 : obj ≠ 1) (h4 : obj ≠ 4) : ∃ c, spec_l2Cost.f j.f0 j.f1 j.f2 j.f3 e obj = some c ∧ v + c = addF v j e obj first := by
  have a2 := hj.d0
  have a3 := hj.d1
  have m1 := mul_bd hj.w0 hj.w1 he0 he1
  have m2 := mul_bd hj.w0 hj.w1 (show 0 ≤ max (e - j.f3) 0 by omega) (by omega)
  have em : max (e - j.f3) 0 = max 0 (e - j.f3) := by omega
  simp only [spec_l2Cost.f, l1Most_e, Option.bind_some, wrap_id (show -9223372036854775808 ≤ e - j.f3 by omega) (show e - j.f3 ≤ 9223372036854775807 by omega), wrap_id (show -9223372036854775808 ≤ j.f1 * e by omega) (by omega), wrap_id (show -9223372036854775808 ≤ j.f1 * max (e - j.f3) 0 by omega) (by omega)]
  rcases objB_iff.1 ho with rfl | rfl | rfl | rfl | rfl | rfl | rfl | rfl
  · exact absurd rfl h1
  · exact ⟨_, rfl, rfl⟩
  · exact ⟨_, rfl, rfl⟩
  · exact absurd rfl h4
  · exact ⟨_, rfl, by rw [em]; rfl⟩
  · exact ⟨_, rfl, by rw [em]; rfl⟩
  · by_cases h : e - j.f3 ≤ 0
    · exact ⟨0, by simp; omega, by simp [addF, h]⟩
    · exact ⟨1, by simp; omega, by simp [addF, h]⟩
  · by_cases h : e - j.f3 ≤ 0
    · exact ⟨0, by simp; omega, by simp [addF, h]⟩
    · exact ⟨j.f1, by simp; omega, by simp [addF, h]⟩
theorem l2Of_l (obj : Int) (hobj : objB obj = true) (r : List S49) (hr : ∀ j ∈ r, JobOk j) : ∀ (pre : List S49) (pe es : List Int) (v : Int), (pre ++ r).length < 4611686018427387904 → pe.length = pre.length → es.length = r.length → (∀ e ∈ es, 0 ≤ e ∧ e ≤ 2000) → -(100000 * (1000 - r.length : Int)) ≤ v → v ≤ 100000 * (1000 - r.length : Int) → r.length ≤ 100 → (pre.length = 0 → v = 0) →
    L (fun k => spec_l2Of.l0 k (pre ++ r) (pe ++ es) obj v (pre.length : Int)) = some (valF obj v (decide (pre.length = 0)) r es) := by
  induction r with
  | nil =>
    intro pre pe es v hb hpe hes _ _ _ _ _
    rw [L_shift]
    simp only [spec_l2Of.l0, not_lt_end, if_false, L_const, valF]
  | cons x r ih =>
    intro pre pe es v hb hpe hes he h0 h1 h2 hv
    match es, hes with
    | y :: es, hes =>
      have hl : pre.length < 4611686018427387904 := by simp at hb; omega
      have e : rd_T49 (pre ++ x :: r) (pre.length : Int) = x := getD_mid pre x r _
      have e1 : rd (pe ++ y :: es) (pre.length : Int) = y := by rw [← hpe]; exact rd_mid pe y es
      have e2 : ((pre.length : Int) < ((pe ++ y :: es).length : Int)) = True := by rw [← hpe]; exact lt_mid pe y es
      have hx := hr x List.mem_cons_self
      have hy := he y List.mem_cons_self
      simp only [List.length_cons] at h0 h1 h2 hes
      have hbd := addF_bd v x y obj (decide (pre.length = 0)) hx hy.1 hy.2 (B := 100000 * (1000 - (r.length + 1 : Nat) : Int)) (by omega) (by omega) (by omega)
      have a2 := hx.d0
      have a3 := hx.d1
      have hstep : L (fun k => spec_l2Of.l0 k (pre ++ x :: r) (pe ++ y :: es) obj v (pre.length : Int)) = L (fun k => spec_l2Of.l0 k (pre ++ x :: r) (pe ++ y :: es) obj (addF v x y obj (decide (pre.length = 0))) ((pre ++ [x]).length : Int)) := by
        rw [L_shift]
        simp only [spec_l2Of.l0, lt_mid, le_nat, if_true, e, e1, e2, wrap_mid pre x hl]
        by_cases h4 : obj = 4
        · subst h4
          simp only [spec_l2Greatest.f, Option.bind_some, wrap_id (show -9223372036854775808 ≤ y - x.f3 by omega) (show y - x.f3 ≤ 9223372036854775807 by omega)]
          by_cases hp : pre.length = 0
          · simp [hp, addF]
          · have hp2 : ¬ pre = [] := fun h => hp (by rw [h]; rfl)
            by_cases hc : y - x.f3 > v
            · have : max v (y - x.f3) = y - x.f3 := by omega
              simp [hp2, addF, hc, this]
            · have : max v (y - x.f3) = v := by omega
              simp [hp2, addF, hc, this]
        · by_cases h1' : obj = 1
          · subst h1'
            simp only [spec_l2Greatest.f, Option.bind_some]
            by_cases hp : pre.length = 0
            · have : max v y = y := by have := hv hp; omega
              simp [hp, addF, this]
            · have hp2 : ¬ pre = [] := fun h => hp (by rw [h]; rfl)
              by_cases hc : y > v
              · have : max v y = y := by omega
                simp [hp2, addF, hc, this]
              · have : max v y = v := by omega
                simp [hp2, addF, hc, this]
          · obtain ⟨c, hc, hv2⟩ := l2Cost_e v x y obj (decide (pre.length = 0)) hx hy.1 hy.2 hobj h1' h4
            have hg : spec_l2Greatest.f obj = some false := by simp [spec_l2Greatest.f, h1', h4]
            simp only [hg, Option.bind_some, hc, hv2, wrap_id (show -9223372036854775808 ≤ addF v x y obj (decide (pre.length = 0)) by omega) (show addF v x y obj (decide (pre.length = 0)) ≤ 9223372036854775807 by omega)]
            simp
      rw [hstep, app_cons pre x r, app_cons pe y es, ih (fun j hj => hr j (List.mem_cons_of_mem _ hj)) (pre ++ [x]) (pe ++ [y]) es _ (by simpa using hb) (by simp [hpe]) (by omega) (fun e he' => he e (List.mem_cons_of_mem _ he')) (by omega) (by omega) (by omega) (by simp), valF]
      simp
theorem l2Of_L (l : List S49) (hg : Good l) (es : List Int) (hes : es.length = l.length) (he : ∀ e ∈ es, 0 ≤ e ∧ e ≤ 2000) (obj : Int) (hobj : objB obj = true) : L (fun k => spec_l2Of.f k l es obj) = some (valP obj l es) := by
  have h8 := hg.1
  have := l2Of_l obj hobj l hg.2 [] [] es 0 (by simp; omega) rfl hes he (by omega) (by omega) (by omega) (fun _ => rfl)
  simpa [spec_l2Of.f, valP] using this
theorem l2Value_L (l : List S49) (o : List Int) (hg : Good l) (ho : IsOrd l.length o) (obj : Int) (hobj : objB obj = true) : L (fun k => spec_l2Value.f k l o obj) = some (valP obj l (endsP l o)) := by
  simp only [spec_l2Value.f, bind_self, L_bind, l2Ends_L l o hg ho, Option.bind_some]
  exact l2Of_L l hg _ (endsP_length l o) (fun e he => by have := endsP_bounds hg ho e he; omega) obj hobj
theorem toJobSS_l (r : List (List S51)) : ∀ pre : List (List S51), (pre ++ r).length < 4611686018427387904 → (∀ x ∈ r, x.length ≤ 1048576) → L (fun k => laws_toJobSS.l0 k (pre ++ r) (pre.map (List.map toJobP) ++ List.replicate r.length []) (pre.length : Int)) = some ((pre ++ r).map (List.map toJobP)) := by
  induction r with
  | nil =>
    intro pre hb hr
    rw [L_shift]
    simp only [laws_toJobSS.l0, not_lt_end, if_false, L_const, List.length_nil, List.replicate_zero]
    simp
  | cons x r ih =>
    intro pre hb hr
    rw [L_shift]
    have hl : pre.length < 4611686018427387904 := by simp at hb; omega
    have e : rd_L2 (pre ++ x :: r) (pre.length : Int) = x := getD_mid pre x r _
    have e2 : ((pre.length : Int) < ((pre.map (List.map toJobP) ++ ([] : List S49) :: List.replicate r.length []).length : Int)) = True := by
      simp only [List.length_append, List.length_cons, List.length_map]
      exact eq_true (by omega)
    simp only [laws_toJobSS.l0, lt_mid, le_nat, if_true, rep_succ, e, e2, wrap_mid pre x hl, L_bind, L_const, toJobS_L x (hr x List.mem_cons_self), Option.bind_some, set_mid (pre.map (List.map toJobP)) _ _ _ pre (by simp)]
    have := ih (pre ++ [x]) (by simpa using hb) (fun y hy => hr y (List.mem_cons_of_mem _ hy))
    simpa using this
theorem toJobSS_L (l : List (List S51)) (h : l.length ≤ 1048576) (hr : ∀ x ∈ l, x.length ≤ 1048576) : L (fun k => laws_toJobSS.f k l) = some (l.map (List.map toJobP)) := by
  simp only [laws_toJobSS.f, le_nat, if_true, Int.toNat_natCast, if_pos (show l.length ≤ 11728124029610 by omega)]
  exact toJobSS_l l [] (by simp; omega) hr
theorem szJobS_ev (l : List S51) (v : Int) (h : l.length ≤ 9223372036854775807) (h0 : 0 ≤ v) (h1 : v ≤ 1048576) : laws_szJobS.f l v = some (if (l.length : Int) ≤ v then v - (l.length : Int) else -1) := by
  unfold laws_szJobS.f
  rw [wrap_id (show -9223372036854775808 ≤ v - (l.length : Int) by omega) (by omega)]
  by_cases h2 : (l.length : Int) ≤ v
  · rw [if_neg (by omega), if_pos h2]
  · rw [if_pos (by omega), if_neg h2]
theorem szJobSS_l (r : List (List S51)) : ∀ (pre : List (List S51)) (v : Int), (pre ++ r).length < 4611686018427387904 → 0 ≤ v → v ≤ 1048576 → (∀ x ∈ r, x.length ≤ 9223372036854775807) →
    ∃ t, L (fun k => laws_szJobSS.l0 k (pre ++ r) v (pre.length : Int)) = some t ∧ (t < 0 ∨ (0 ≤ t ∧ t ≤ v ∧ ∀ x ∈ r, x.length ≤ 1048576)) := by
  induction r with
  | nil =>
    intro pre v hb h0 h1 hr
    rw [L_shift]
    simp only [laws_szJobSS.l0, not_lt_end, if_false, L_const]
    exact ⟨v, rfl, .inr ⟨h0, Int.le_refl _, by simp⟩⟩
  | cons x r ih =>
    intro pre v hb h0 h1 hr
    rw [L_shift]
    have hl : pre.length < 4611686018427387904 := by simp at hb; omega
    have e : rd_L2 (pre ++ x :: r) (pre.length : Int) = x := getD_mid pre x r _
    simp only [laws_szJobSS.l0, lt_mid, le_nat, if_true, e, wrap_mid pre x hl, szJobS_ev x v (hr x List.mem_cons_self) h0 h1, Option.bind_some, L_ite, L_const]
    by_cases h2 : (x.length : Int) ≤ v
    · rw [if_pos h2, if_neg (by omega), app_cons pre x r]
      obtain ⟨t, ht, hd⟩ := ih (pre ++ [x]) (v - (x.length : Int)) (by simpa using hb) (by omega) (by omega) (fun y hy => hr y (List.mem_cons_of_mem _ hy))
      refine ⟨t, ht, hd.imp id (fun hd => ⟨hd.1, by omega, ?_⟩)⟩
      intro y hy
      rcases List.mem_cons.1 hy with rfl | hy
      · omega
      · exact hd.2.2 y hy
    · rw [if_neg h2, if_pos (by omega)]
      exact ⟨-1, rfl, .inl (by omega)⟩
theorem szJobSS_L (l : List (List S51)) (v : Int) (h0 : 0 ≤ v) (h1 : v ≤ 1048576) (hl : l.length ≤ 9223372036854775807) (hr : ∀ x ∈ l, x.length ≤ 9223372036854775807) :
    ∃ t, L (fun k => laws_szJobSS.f k l v) = some t ∧ (t < 0 ∨ (0 ≤ t ∧ t ≤ v ∧ l.length ≤ 1048576 ∧ ∀ x ∈ l, x.length ≤ 1048576)) := by
  simp only [laws_szJobSS.f]
  rw [wrap_id (show -9223372036854775808 ≤ v - (l.length : Int) by omega) (by omega)]
  by_cases h : v - (l.length : Int) < 0
  · simp only [if_pos h, L_const]
    exact ⟨-1, rfl, .inl (by omega)⟩
  · simp only [if_neg h]
    obtain ⟨t, ht, hd⟩ := szJobSS_l l [] (v - (l.length : Int)) (by simp; omega) (by omega) (by omega) hr
    exact ⟨t, ht, hd.imp id (fun hd => ⟨hd.1, by omega, by omega, hd.2.2⟩)⟩
theorem eqJobSS_l (r : List (List S49)) : ∀ pre : List (List S49), (pre ++ r).length < 4611686018427387904 → (∀ x ∈ r, x.length ≤ 1048576) → L (fun k => laws_eqJobSS.l0 k (pre ++ r) (pre ++ r) (pre.length : Int)) = some true := by
  induction r with
  | nil =>
    intro pre hb hr
    rw [L_shift]
    simp only [laws_eqJobSS.l0, not_lt_end, if_false, L_const]
  | cons x r ih =>
    intro pre hb hr
    rw [L_shift]
    have hl : pre.length < 4611686018427387904 := by simp at hb; omega
    have e : rd_L4 (pre ++ x :: r) (pre.length : Int) = x := getD_mid pre x r _
    simp only [laws_eqJobSS.l0, lt_mid, le_nat, if_true, e, wrap_mid pre x hl, L_bind, L_const, eqJobS_L x (hr x List.mem_cons_self), Option.bind_some]
    rw [app_cons pre x r]
    exact ih (pre ++ [x]) (by simpa using hb) (fun y hy => hr y (List.mem_cons_of_mem _ hy))
theorem eqJobSS_L (l : List (List S49)) (h : l.length ≤ 1048576) (hr : ∀ x ∈ l, x.length ≤ 1048576) : L (fun k => laws_eqJobSS.f k l l) = some true := by
  simp only [laws_eqJobSS.f, if_true]
  exact eqJobSS_l l [] (by simp; omega) hr
theorem markJobSS_l (r : List (List S49)) : ∀ (pre : List (List S49)) (v : Int), (pre ++ r).length ≤ 1048576 → 0 ≤ v → v + 4194304 * r.length ≤ 9000000000000000000 → (∀ x ∈ r, x.length ≤ 1048576) → ∃ (t : Int) (R : List (List S49)), 0 ≤ t ∧ t ≤ v + 4194304 * r.length ∧ L (fun k => laws_markJobSS.l0 k (pre ++ r) v (pre.length : Int)) = some (t, R) := by
  induction r with
  | nil =>
    intro pre v hb h0 h1 hr
    refine ⟨v, pre, h0, by simp, ?_⟩
    rw [L_shift]
    simp only [laws_markJobSS.l0, not_lt_end, if_false, L_const]
    simp
  | cons x r ih =>
    intro pre v hb h0 h1 hr
    have hl : pre.length < 4611686018427387904 := by simp at hb; omega
    simp only [List.length_cons] at h1
    have hx := hr x List.mem_cons_self
    have e : (pre ++ x :: r).getD (pre.length : Int).toNat ([] : List S49) = x := getD_mid pre x r _
    have hX := markJobS_L x v hx h0 (by omega)
    generalize countJ v x = X at hX
    obtain ⟨t, R, ht, ht2, hR⟩ := ih (pre ++ [X]) (v + 4 * x.length) (by simpa using hb) (by omega) (by omega) (fun y hy => hr y (List.mem_cons_of_mem _ hy))
    refine ⟨t, R, ht, by simp only [List.length_cons]; omega, ?_⟩
    rw [L_shift]
    simp only [laws_markJobSS.l0, lt_mid, le_nat, if_true, e, L_bind, L_const, hX, Option.bind_some, set_mid pre x _ r pre rfl, wrap_mid pre x hl]
    rw [app_cons pre X r, show (pre ++ [x]).length = (pre ++ [X]).length by simp]
    exact hR
theorem markJobSS_L (l : List (List S49)) (h : l.length ≤ 1048576) (hr : ∀ x ∈ l, x.length ≤ 1048576) : ∃ (t : Int) (R : List (List S49)), 0 ≤ t ∧ t ≤ 9000000000000000000 ∧ L (fun k => laws_markJobSS.f k l 1) = some (t, R) := by
  obtain ⟨t, R, ht, ht2, hR⟩ := markJobSS_l l [] 1 (by simpa using h) (by omega) (by omega) hr
  exact ⟨t, R, ht, by omega, by simpa [laws_markJobSS.f] using hR⟩
/-- Scenarios: one to four lists of jobs, all valid and of one length. -/
def scenR (w : List (List S49)) (r : List (List S49)) : Bool := r.all (fun x => goodB x && decide ((x.length : Int) = ((rd_L4 w 0).length : Int)))
theorem scenR_cons (w : List (List S49)) (x : List S49) (r : List (List S49)) : scenR w (x :: r) = (goodB x && decide ((x.length : Int) = ((rd_L4 w 0).length : Int)) && scenR w r) := rfl
theorem scenR_iff {w r : List (List S49)} : scenR w r = true ↔ ∀ x ∈ r, Good x ∧ x.length = (rd_L4 w 0).length := by
  simp only [scenR, List.all_eq_true, Bool.and_eq_true, decide_eq_true_eq, goodB_iff]
  constructor
  · intro h x hx
    exact ⟨(h x hx).1, by have := (h x hx).2; omega⟩
  · intro h x hx
    exact ⟨(h x hx).1, by have := (h x hx).2; omega⟩
/-- They are scenarios. -/
def scenB (w : List (List S49)) : Bool := scenR w w && inB (w.length : Int) 1 4
theorem l11Lists_l (w : List (List S49)) (hw : w.length ≤ 1048576) (hx : ∀ x ∈ w, x.length ≤ 1048576) : ∀ (r pre : List (List S49)), pre ++ r = w → L (fun k => spec_l11Lists.l0 k w (pre.length : Int)) = some (scenR w r && inB (w.length : Int) 1 4)
  | [], pre, e => by
    rw [List.append_nil] at e
    subst e
    rw [L_shift]
    simp only [spec_l11Lists.l0, if_neg (show ¬ ((pre.length : Int) < (pre.length : Int)) by omega), l1In_e, Option.bind_some, L_const]
    simp [scenR]
  | x :: r, pre, e => by
    have hl : w.length = pre.length + (r.length + 1) := by rw [← e]; simp
    have er : rd_L4 w (pre.length : Int) = x := by rw [← e]; exact getD_mid pre x r _
    have ih := l11Lists_l w hw hx r (pre ++ [x]) (by rw [← e]; simp)
    have ew : wrap64 ((pre.length : Int) + 1) = ((pre ++ [x]).length : Int) := wrap_mid pre x (by omega)
    have hgx := l2Good_L x (by have := hx x (by rw [← e]; simp); omega)
    rw [L_shift]
    simp only [spec_l11Lists.l0, if_pos (show (pre.length : Int) < (w.length : Int) by omega), if_pos (show (0 : Int) ≤ (pre.length : Int) by omega), if_pos (show (0 : Int) < (w.length : Int) by omega), er, ew, L_bind, hgx, Option.bind_some, L_ite, L_const, ih]
    rw [scenR_cons]
    cases goodB x with
    | false => simp
    | true =>
      by_cases h2 : (x.length : Int) = ((rd_L4 w 0).length : Int)
      · rw [if_pos rfl, if_pos h2, decide_eq_true h2]
        rfl
      · rw [if_pos rfl, if_neg h2, decide_eq_false h2]
        rfl
theorem l11Lists_L (w : List (List S49)) (hw : w.length ≤ 1048576) (hx : ∀ x ∈ w, x.length ≤ 1048576) : L (fun k => spec_l11Lists.f k w) = some (scenB w) := l11Lists_l w hw hx w [] rfl
theorem areScen_l (w : List (List S49)) (hw : w.length ≤ 1048576) (hx : ∀ x ∈ w, x.length ≤ 1048576) : ∀ (r pre : List (List S49)), pre ++ r = w → L (fun k => impl_AreScenarios.l0 k w w (w.length : Int) (pre.length : Int)) = some (scenR w r)
  | [], pre, e => by
    rw [List.append_nil] at e
    subst e
    rw [L_shift]
    simp only [impl_AreScenarios.l0, if_neg (show ¬ ((pre.length : Int) < (pre.length : Int)) by omega), L_const]
    simp [scenR]
  | x :: r, pre, e => by
    have hl : w.length = pre.length + (r.length + 1) := by rw [← e]; simp
    have er : rd_L4 w (pre.length : Int) = x := by rw [← e]; exact getD_mid pre x r _
    have ih := areScen_l w hw hx r (pre ++ [x]) (by rw [← e]; simp)
    have ew : wrap64 ((pre.length : Int) + 1) = ((pre ++ [x]).length : Int) := wrap_mid pre x (by omega)
    have hgx := IsJobs_L x (by have := hx x (by rw [← e]; simp); omega)
    rw [L_shift]
    simp only [impl_AreScenarios.l0, if_pos (show (pre.length : Int) < (w.length : Int) by omega), if_pos (show (0 : Int) ≤ (pre.length : Int) by omega), if_pos (show (0 : Int) < (w.length : Int) by omega), er, ew, L_bind, hgx, Option.bind_some, L_ite, L_const, ih]
    rw [scenR_cons]
    cases goodB x with
    | false => simp
    | true =>
      by_cases h2 : (x.length : Int) = ((rd_L4 w 0).length : Int)
      · rw [if_pos rfl, if_pos h2, decide_eq_true h2]
        rfl
      · rw [if_pos rfl, if_neg h2, decide_eq_false h2]
        rfl
theorem AreScenarios_L (w : List (List S49)) (hw : w.length ≤ 1048576) (hx : ∀ x ∈ w, x.length ≤ 1048576) : L (fun k => impl_AreScenarios.f k w) = some (scenB w) := by
  have h := areScen_l w hw hx w [] rfl
  simp only [List.length_nil, Int.natCast_zero] at h
  simp only [impl_AreScenarios.f, within_e, Option.bind_some, L_ite, L_const, h, scenB]
  cases inB (w.length : Int) 1 4 <;> simp
theorem l11Values_l (w : List (List S49)) (hw : w.length ≤ 1048576) (o : List Int) (obj : Int) (V : List S49 → Int) (hV : ∀ x ∈ w, L (fun k => spec_l2Value.f k x o obj) = some (V x)) : ∀ (r pre : List (List S49)) (out : List Int), pre ++ r = w → out.length = pre.length → L (fun k => spec_l11Values.l0 k w o obj out (pre.length : Int)) = some (out ++ r.map V)
  | [], pre, out, e, ho => by
    rw [List.append_nil] at e
    subst e
    rw [L_shift]
    simp only [spec_l11Values.l0, if_neg (show ¬ ((pre.length : Int) < (pre.length : Int)) by omega), L_const]
    simp
  | x :: r, pre, out, e, ho => by
    have hl : w.length = pre.length + (r.length + 1) := by rw [← e]; simp
    have er : rd_L4 w (pre.length : Int) = x := by rw [← e]; exact getD_mid pre x r _
    have ih := l11Values_l w hw o obj V hV r (pre ++ [x]) (out ++ [V x]) (by rw [← e]; simp) (by simp [ho])
    have ew : wrap64 ((pre.length : Int) + 1) = ((pre ++ [x]).length : Int) := wrap_mid pre x (by omega)
    have hgx := hV x (by rw [← e]; simp)
    rw [L_shift]
    simp only [spec_l11Values.l0, if_pos (show (pre.length : Int) < (w.length : Int) by omega), if_pos (show (0 : Int) ≤ (pre.length : Int) by omega), if_pos (show out.length < 17592186044416 by omega), er, ew, L_bind, hgx, Option.bind_some, ih]
    simp
theorem l11Values_L (w : List (List S49)) (hw : w.length ≤ 1048576) (o : List Int) (obj : Int) (V : List S49 → Int) (hV : ∀ x ∈ w, L (fun k => spec_l2Value.f k x o obj) = some (V x)) : L (fun k => spec_l11Values.f k w o obj) = some (w.map V) := l11Values_l w hw o obj V hV w [] [] rfl rfl
theorem scenVals_l (w : List (List S49)) (hw : w.length ≤ 1048576) (o : List Int) (obj : Int) (V : List S49 → Int) (hV : ∀ x ∈ w, L (fun k => impl_valueOf.f k x o obj) = some (V x)) : ∀ (r pre : List (List S49)) (out : List Int), pre ++ r = w → out.length = pre.length → L (fun k => impl_scenarioValues.l0 k o obj out w (w.length : Int) (pre.length : Int)) = some (out ++ r.map V)
  | [], pre, out, e, ho => by
    rw [List.append_nil] at e
    subst e
    rw [L_shift]
    simp only [impl_scenarioValues.l0, if_neg (show ¬ ((pre.length : Int) < (pre.length : Int)) by omega), L_const]
    simp
  | x :: r, pre, out, e, ho => by
    have hl : w.length = pre.length + (r.length + 1) := by rw [← e]; simp
    have er : rd_L4 w (pre.length : Int) = x := by rw [← e]; exact getD_mid pre x r _
    have ih := scenVals_l w hw o obj V hV r (pre ++ [x]) (out ++ [V x]) (by rw [← e]; simp) (by simp [ho])
    have ew : wrap64 ((pre.length : Int) + 1) = ((pre ++ [x]).length : Int) := wrap_mid pre x (by omega)
    have hgx := hV x (by rw [← e]; simp)
    rw [L_shift]
    simp only [impl_scenarioValues.l0, if_pos (show (pre.length : Int) < (w.length : Int) by omega), if_pos (show (0 : Int) ≤ (pre.length : Int) by omega), if_pos (show out.length < 17592186044416 by omega), er, ew, L_bind, hgx, Option.bind_some, ih]
    simp
theorem scenVals_L (w : List (List S49)) (hw : w.length ≤ 1048576) (o : List Int) (obj : Int) (V : List S49 → Int) (hV : ∀ x ∈ w, L (fun k => impl_valueOf.f k x o obj) = some (V x)) : L (fun k => impl_scenarioValues.f k w o obj) = some (w.map V) := scenVals_l w hw o obj V hV w [] [] rfl rfl
theorem l11Fits_L (w : List (List S49)) (o : List Int) (obj : Int) (hw : w.length ≤ 1048576) (hx : ∀ x ∈ w, x.length ≤ 1048576) (ho : o.length ≤ 1048576) : L (fun k => spec_l11Fits.f k w o obj) = some (scenB w && orderB (rd_L4 w 0).length o && objB obj) := by
  simp only [spec_l11Fits.f, L_bind, l11Lists_L w hw hx, Option.bind_some, L_ite, L_const]
  cases h : scenB w with
  | false => simp
  | true =>
    have h1 := h
    simp only [scenB, Bool.and_eq_true, inB_iff] at h1
    have h0 : 0 < w.length := by have := h1.2.1; omega
    have hm : rd_L4 w 0 ∈ w := by
      show w.getD (0 : Int).toNat [] ∈ w
      rw [Int.toNat_zero, List.getD_eq_getElem?_getD, List.getElem?_eq_getElem h0]
      exact List.getElem_mem _
    have hg := ((scenR_iff.1 h1.1) _ hm).1
    have h8 := hg.1
    simp only [if_true, if_pos (show (0 : Int) < (w.length : Int) by omega), l2Order_L (rd_L4 w 0).length o (by omega) (show o.length < 4611686018427387904 by omega), Option.bind_some, l2Objective_e, L_const, decide_eq_true h8, Bool.true_and]
    cases orderB (rd_L4 w 0).length o <;> simp
theorem scenB_all {w : List (List S49)} {o : List Int} (h : scenB w = true) (ho : orderB (rd_L4 w 0).length o = true) : (1 ≤ w.length ∧ w.length ≤ 4) ∧ ∀ x ∈ w, Good x ∧ IsOrd x.length o := by
  simp only [scenB, Bool.and_eq_true, inB_iff] at h
  refine ⟨by have := h.2; omega, fun x hx => ?_⟩
  obtain ⟨h1, h2⟩ := (scenR_iff.1 h.1) x hx
  rw [h2]
  exact ⟨h1, orderB_iff.1 ho⟩
theorem areRobust_L (w : List (List S49)) (obj : Int) (hw : w.length ≤ 1048576) (hx : ∀ x ∈ w, x.length ≤ 1048576) : L (fun k => impl_areRobust.f k w obj) = some (scenB w && objB obj) := by
  simp only [impl_areRobust.f, L_bind, AreScenarios_L w hw hx, Option.bind_some, L_ite, L_const, isObjective_e, ite_and]

theorem ScenarioValues_both (w : List (List S49)) (o : List Int) (obj : Int) (hw : w.length ≤ 1048576) (hx : ∀ x ∈ w, x.length ≤ 1048576) (ho : o.length ≤ 1048576) :
    ∃ (R : List Int) (b : Bool), L (fun k => spec_ScenarioValues.f k w o obj) = some (R, b) ∧ L (fun k => impl_ScenarioValues.f k w o obj) = some (R, b) ∧ R.length ≤ 4 := by
  simp only [spec_ScenarioValues.f, impl_ScenarioValues.f, L_bind, L_ite, L_const, l11Fits_L w o obj hw hx ho, areRobust_L w obj hw hx, Option.bind_some]
  cases hs : scenB w with
  | false => exact ⟨[], false, by simp, by simp, by simp⟩
  | true =>
    have h1 := hs
    simp only [scenB, Bool.and_eq_true, inB_iff] at h1
    have h0 : (0 : Int) < (w.length : Int) := by have := h1.2.1; omega
    have hm : rd_L4 w 0 ∈ w := by
      show w.getD (0 : Int).toNat [] ∈ w
      rw [Int.toNat_zero, List.getD_eq_getElem?_getD, List.getElem?_eq_getElem (by omega)]
      exact List.getElem_mem _
    cases hobj : objB obj with
    | false => exact ⟨[], false, by simp, by simp, by simp⟩
    | true =>
      simp only [Bool.true_and, Bool.and_true, if_true, if_pos h0, isOrder_L (rd_L4 w 0).length o (hx _ hm) (show o.length < 4611686018427387904 by omega), Option.bind_some]
      cases hord : orderB (rd_L4 w 0).length o with
      | false => exact ⟨[], false, by simp, by simp, by simp⟩
      | true =>
        obtain ⟨hw4, hall⟩ := scenB_all hs hord
        have e1 := l11Values_L w hw o obj (fun x => valP obj x (endsP x o)) (fun x h => l2Value_L x o (hall x h).1 (hall x h).2 obj hobj)
        have e2 := scenVals_L w hw o obj (fun x => valP obj x (endsP x o)) (fun x h => valueOf_L x o (hall x h).1 (hall x h).2 obj)
        exact ⟨w.map (fun x => valP obj x (endsP x o)), true, by simp only [if_true, e1, Option.bind_some], by simp only [if_true, e2, Option.bind_some], by rw [List.length_map]; omega⟩

theorem FnExactScenarioValues : laws_FnExactScenarioValues.Pure := by
  intro w o obj h1 h1' h2 _ _
  have e1 : maxLen = 9223372036854775807 := rfl
  refine rounds_of_L ?_
  unfold laws_FnExactScenarioValues.f
  obtain ⟨v, hv, hd⟩ := szJobSS_L w 1048576 (by omega) (by omega) (by omega) (fun x hx => by have := (h1' x hx).1; omega)
  by_cases ho : o.length ≤ 1048576
  · rw [L_ite, if_neg (by omega)]
    (rw [L_bind, hv, Option.bind_some]; try dsimp only)
    rcases hd with hd | ⟨hd0, hd1, hl, hr⟩
    · rw [L_ite, if_pos hd, L_const]
    · rw [L_ite, if_neg (by omega)]
      have hl2 : (w.map (List.map toJobP)).length ≤ 1048576 := by simpa using hl
      have hr2 : ∀ x ∈ w.map (List.map toJobP), x.length ≤ 1048576 := by
        intro x hx
        obtain ⟨y, hy, rfl⟩ := List.mem_map.1 hx
        simpa using hr y hy
      obtain ⟨R, ok, hs, hi, hR4⟩ := ScenarioValues_both (w.map (List.map toJobP)) o obj hl2 hr2 ho
      have hR : R.length ≤ 1048576 := by omega
      obtain ⟨tm, Rm, htm, htm2, hm⟩ := markJobSS_L (w.map (List.map toJobP)) hl2 hr2
      (rw [L_bind, (toJobSS_L w hl hr), Option.bind_some]; try dsimp only)
      (rw [L_bind, (toIntS_L o ho), Option.bind_some]; try dsimp only)
      (rw [L_bind, hs, Option.bind_some]; try dsimp only)
      (rw [L_bind, (toJobSS_L w hl hr), Option.bind_some]; try dsimp only)
      (rw [L_bind, (toIntS_L o ho), Option.bind_some]; try dsimp only)
      (rw [L_bind, hi, Option.bind_some]; try dsimp only)
      (rw [L_bind, (eqIntS_L R hR), Option.bind_some]; try dsimp only)
      rw [L_ite, if_pos rfl]
      rw [L_ite, if_pos rfl]
      (rw [L_bind, (toJobSS_L w hl hr), Option.bind_some]; try dsimp only)
      (rw [L_bind, (eqJobSS_L _ hl2 hr2), Option.bind_some]; try dsimp only)
      rw [L_ite, if_pos rfl]
      (rw [L_bind, (toIntS_L o ho), Option.bind_some]; try dsimp only)
      (rw [L_bind, (eqIntS_L o ho), Option.bind_some]; try dsimp only)
      rw [L_ite, if_pos rfl]
      (rw [L_bind, hm, Option.bind_some]; try dsimp only)
      (rw [L_bind, (markIntS_L o tm ho (by omega) (by omega)), Option.bind_some]; try dsimp only)
      rw [L_ite, if_neg (by omega)]
      (rw [L_bind, (eqIntS_L R hR), Option.bind_some]; try dsimp only)
      rw [L_ite, if_pos rfl]
      rw [L_ite, if_pos rfl]
      (rw [L_bind, (markIntS_L R 1 hR (by omega) (by omega)), Option.bind_some]; try dsimp only)
      (rw [L_bind, (heldIntS_L R 1 hR (by omega) (by omega)), Option.bind_some]; try dsimp only)
      rw [L_ite, if_neg (by omega)]
      rw [L_ite, if_pos rfl]
      (rw [L_bind, (toJobSS_L w hl hr), Option.bind_some]; try dsimp only)
      (rw [L_bind, (toIntS_L o ho), Option.bind_some]; try dsimp only)
      (rw [L_bind, hi, Option.bind_some]; try dsimp only)
      (rw [L_bind, (eqIntS_L R hR), Option.bind_some]; try dsimp only)
      rw [L_ite, if_pos rfl]
      rw [L_ite, if_pos rfl]
      (rw [L_bind, (heldIntS_L R 1 hR (by omega) (by omega)), Option.bind_some]; try dsimp only)
      rw [L_ite, if_neg (by omega)]
      rw [L_ite, if_pos rfl]
      rw [L_const]
  · rw [L_ite, if_pos (by omega), L_const]

end Go.Proofs.Ytlckggmagpjlmaa.Pure
