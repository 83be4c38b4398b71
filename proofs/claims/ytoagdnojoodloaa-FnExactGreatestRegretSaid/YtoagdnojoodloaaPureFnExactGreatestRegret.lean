/- The program's GreatestRegret answers what the reference's answers, for all scenarios, orders and objectives. -/
import Derived.Test.YtoagdnojoodloaaXSFnExactGreatestRegret
import Derived.Test.YtoagdnojoodloaaXLim
namespace Go.Proofs.Ytoagdnojoodloaa.Pure
open Go.RowKit Go.Proofs.YtoagdnojoodloaaW.PrintWords Go.Proofs.YtoagdnojoodloaaW.PrintLast Go.Proofs.YtoagdnojoodloaaW.PrintMore Go.Proofs.Ytoagdnojoodloaa.X Go.Proofs.Ytoagdnojoodloaa.XRow Go.Proofs.Ytoagdnojoodloaa.XLim
set_option linter.unusedVariables false
set_option linter.unusedSimpArgs false
instance : ∀ a0, Mono (fun k => impl_AreScenarios.f k a0) := fun a0 => ⟨⟨impl_AreScenarios.mono a0⟩⟩
instance : ∀ a0 a1 a2, Mono (fun k => impl_GreatestRegret.f k a0 a1 a2) := fun a0 a1 a2 => ⟨⟨impl_GreatestRegret.mono a0 a1 a2⟩⟩
instance : ∀ a0, Mono (fun k => impl_IsJobs.f k a0) := fun a0 => ⟨⟨impl_IsJobs.mono a0⟩⟩
instance : ∀ a0 a1, Mono (fun k => impl_areDifferent.f k a0 a1) := fun a0 a1 => ⟨⟨impl_areDifferent.mono a0 a1⟩⟩
instance : ∀ a0 a1, Mono (fun k => impl_areRobust.f k a0 a1) := fun a0 a1 => ⟨⟨impl_areRobust.mono a0 a1⟩⟩
instance : ∀ l0 a1, Mono (fun k => impl_best.f k l0 a1) := fun l0 a1 => ⟨⟨impl_best.mono l0 a1⟩⟩
instance : ∀ a0 a1, Mono (fun k => impl_bestValues.f k a0 a1) := fun a0 a1 => ⟨⟨impl_bestValues.mono a0 a1⟩⟩
instance : ∀ a0 a1, Mono (fun k => impl_endsOf.f k a0 a1) := fun a0 a1 => ⟨⟨impl_endsOf.mono a0 a1⟩⟩
instance : ∀ a0 a1, Mono (fun k => impl_greatest.f k a0 a1) := fun a0 a1 => ⟨⟨impl_greatest.mono a0 a1⟩⟩
instance : ∀ a0 a1, Mono (fun k => impl_has.f k a0 a1) := fun a0 a1 => ⟨⟨impl_has.mono a0 a1⟩⟩
instance : ∀ a0 a1, Mono (fun k => impl_isOrder.f k a0 a1) := fun a0 a1 => ⟨⟨impl_isOrder.mono a0 a1⟩⟩
instance : ∀ a0, Mono (fun k => impl_nextOrder.f k a0) := fun a0 => ⟨⟨impl_nextOrder.mono a0⟩⟩
instance : ∀ a0, Mono (fun k => impl_numbersTo.f k a0) := fun a0 => ⟨⟨impl_numbersTo.mono a0⟩⟩
instance : ∀ a0 a1 a2, Mono (fun k => impl_scenarioValues.f k a0 a1 a2) := fun a0 a1 a2 => ⟨⟨impl_scenarioValues.mono a0 a1 a2⟩⟩
instance : ∀ a0 a1 a2, Mono (fun k => impl_valueOf.f k a0 a1 a2) := fun a0 a1 a2 => ⟨⟨impl_valueOf.mono a0 a1 a2⟩⟩
instance : ∀ a0 a1 a2, Mono (fun k => impl_valueOfEnds.f k a0 a1 a2) := fun a0 a1 a2 => ⟨⟨impl_valueOfEnds.mono a0 a1 a2⟩⟩
instance : ∀ a0 a1 a2, Mono (fun k => laws_FnExactGreatestRegret.f k a0 a1 a2) := fun a0 a1 a2 => ⟨⟨laws_FnExactGreatestRegret.mono a0 a1 a2⟩⟩
instance : ∀ a0 a1, Mono (fun k => laws_eqIntS.f k a0 a1) := fun a0 a1 => ⟨⟨laws_eqIntS.mono a0 a1⟩⟩
instance : ∀ a0 a1, Mono (fun k => laws_eqJobS.f k a0 a1) := fun a0 a1 => ⟨⟨laws_eqJobS.mono a0 a1⟩⟩
instance : ∀ a0 a1, Mono (fun k => laws_eqJobSS.f k a0 a1) := fun a0 a1 => ⟨⟨laws_eqJobSS.mono a0 a1⟩⟩
instance : ∀ a0 a1, Mono (fun k => laws_szJobSS.f k a0 a1) := fun a0 a1 => ⟨⟨laws_szJobSS.mono a0 a1⟩⟩
instance : ∀ a0, Mono (fun k => laws_toIntS.f k a0) := fun a0 => ⟨⟨laws_toIntS.mono a0⟩⟩
instance : ∀ a0, Mono (fun k => laws_toJobS.f k a0) := fun a0 => ⟨⟨laws_toJobS.mono a0⟩⟩
instance : ∀ a0, Mono (fun k => laws_toJobSS.f k a0) := fun a0 => ⟨⟨laws_toJobSS.mono a0⟩⟩
instance : ∀ a0 a1 a2, Mono (fun k => spec_GreatestRegret.f k a0 a1 a2) := fun a0 a1 a2 => ⟨⟨spec_GreatestRegret.mono a0 a1 a2⟩⟩
instance : ∀ a0 a1, Mono (fun k => spec_l11Bests.f k a0 a1) := fun a0 a1 => ⟨⟨spec_l11Bests.mono a0 a1⟩⟩
instance : ∀ a0 a1 a2, Mono (fun k => spec_l11Fits.f k a0 a1 a2) := fun a0 a1 a2 => ⟨⟨spec_l11Fits.mono a0 a1 a2⟩⟩
instance : ∀ a0, Mono (fun k => spec_l11Lists.f k a0) := fun a0 => ⟨⟨spec_l11Lists.mono a0⟩⟩
instance : ∀ a0 a1 a2, Mono (fun k => spec_l11Values.f k a0 a1 a2) := fun a0 a1 a2 => ⟨⟨spec_l11Values.mono a0 a1 a2⟩⟩
instance : ∀ a0 a1, Mono (fun k => spec_l11Worst.f k a0 a1) := fun a0 a1 => ⟨⟨spec_l11Worst.mono a0 a1⟩⟩
instance : ∀ a0 a1, Mono (fun k => spec_l1Has.f k a0 a1) := fun a0 a1 => ⟨⟨spec_l1Has.mono a0 a1⟩⟩
instance : ∀ a0 a1, Mono (fun k => spec_l2All.f k a0 a1) := fun a0 a1 => ⟨⟨spec_l2All.mono a0 a1⟩⟩
instance : ∀ a0 a1, Mono (fun k => spec_l2Best.f k a0 a1) := fun a0 a1 => ⟨⟨spec_l2Best.mono a0 a1⟩⟩
instance : ∀ a0 a1, Mono (fun k => spec_l2Ends.f k a0 a1) := fun a0 a1 => ⟨⟨spec_l2Ends.mono a0 a1⟩⟩
instance : ∀ a0, Mono (fun k => spec_l2Good.f k a0) := fun a0 => ⟨⟨spec_l2Good.mono a0⟩⟩
instance : ∀ a0 a1 a2, Mono (fun k => spec_l2Of.f k a0 a1 a2) := fun a0 a1 a2 => ⟨⟨spec_l2Of.mono a0 a1 a2⟩⟩
instance : ∀ a0 a1, Mono (fun k => spec_l2Order.f k a0 a1) := fun a0 a1 => ⟨⟨spec_l2Order.mono a0 a1⟩⟩
instance : ∀ a0 a1, Mono (fun k => spec_l2Starts.f k a0 a1) := fun a0 a1 => ⟨⟨spec_l2Starts.mono a0 a1⟩⟩
instance : ∀ a0 a1 a2 a3 a4 a5, Mono (fun k => spec_l2Try.f k a0 a1 a2 a3 a4 a5) := fun a0 a1 a2 a3 a4 a5 => ⟨⟨spec_l2Try.mono a0 a1 a2 a3 a4 a5⟩⟩
instance : ∀ a0 a1 a2, Mono (fun k => spec_l2Value.f k a0 a1 a2) := fun a0 a1 a2 => ⟨⟨spec_l2Value.mono a0 a1 a2⟩⟩
theorem lt_mid {α : Type} (pre : List α) (x : α) (r : List α) : ((pre.length : Int) < ((pre ++ x :: r).length : Int)) = True := by
  simp only [List.length_append, List.length_cons]
  exact eq_true (by omega)
theorem not_lt_end {α : Type} (pre : List α) : ((pre.length : Int) < ((pre ++ []).length : Int)) = False := by
  simp
theorem le_nat (n : Nat) : (0 ≤ (n : Int)) = True := eq_true (by omega)
theorem getD_mid {α : Type} (pre : List α) (x : α) (r : List α) (d : α) : (pre ++ x :: r).getD (pre.length : Int).toNat d = x := by
  simp [List.getD_eq_getElem?_getD]
theorem rd_mid (pre : List Int) (x : Int) (r : List Int) : rd (pre ++ x :: r) (pre.length : Int) = x := getD_mid pre x r 0
theorem wrap_mid {α : Type} (pre : List α) (x : α) (h : pre.length < 4611686018427387904) : wrap64 ((pre.length : Int) + 1) = ((pre ++ [x]).length : Int) := by
  rw [wrap_id (by omega) (by omega)]
  simp
theorem set_mid {α β : Type} (a : List α) (y v : α) (b : List α) (pre : List β) (h : pre.length = a.length) : (a ++ y :: b).set (pre.length : Int).toNat v = a ++ v :: b := by
  rw [Int.toNat_natCast, h, List.set_append_right _ _ (Nat.le_refl _)]
  simp
theorem rep_succ {α : Type} (x : α) (r : List α) {β : Type} (z : β) : List.replicate (x :: r).length z = z :: List.replicate r.length z := rfl
theorem app_cons {α : Type} (pre : List α) (x : α) (r : List α) : pre ++ x :: r = (pre ++ [x]) ++ r := by simp
theorem getD_set (out : List Int) (i j : Nat) (v : Int) : (out.set i v).getD j 0 = if i = j ∧ j < out.length then v else out.getD j 0 := by
  simp only [List.getD_eq_getElem?_getD, List.getElem?_set]
  by_cases h : i = j
  · subst h
    by_cases h2 : i < out.length
    · simp [h2]
    · simp [h2]
  · simp [h]
theorem ext_getD {a b : List Int} (hl : a.length = b.length) (h : ∀ j : Nat, j < a.length → a.getD j 0 = b.getD j 0) : a = b := by
  apply List.ext_getElem hl
  intro j h1 h2
  have := h j h1
  rwa [List.getD_eq_getElem?_getD, List.getD_eq_getElem?_getD, List.getElem?_eq_getElem h1, List.getElem?_eq_getElem h2] at this
theorem getD_mem {l : List Int} {j : Nat} (hj : j < l.length) : l.getD j 0 ∈ l := by
  rw [List.getD_eq_getElem?_getD, List.getElem?_eq_getElem hj]
  exact List.getElem_mem _
theorem toIntS_l (r : List Int) : ∀ pre : List Int, (pre ++ r).length < 4611686018427387904 → L (fun k => laws_toIntS.l0 k (pre ++ r) (pre ++ List.replicate r.length 0) (pre.length : Int)) = some (pre ++ r) := by
  induction r with
  | nil =>
    intro pre hb
    rw [L_shift]
    simp only [laws_toIntS.l0, not_lt_end, if_false, L_const, List.length_nil, List.replicate_zero]
  | cons x r ih =>
    intro pre hb
    rw [L_shift]
    have hl : pre.length < 4611686018427387904 := by simp at hb; omega
    simp only [laws_toIntS.l0, lt_mid, le_nat, if_true, rep_succ, rd_mid, wrap_mid pre x hl, set_mid pre _ x _ pre rfl]
    rw [app_cons pre x r, app_cons pre x (List.replicate _ _)]
    exact ih (pre ++ [x]) (by simpa using hb)
theorem toIntS_L (l : List Int) (h : l.length ≤ 1048576) : L (fun k => laws_toIntS.f k l) = some l := by
  simp only [laws_toIntS.f, le_nat, if_true, Int.toNat_natCast, if_pos (show l.length ≤ 35184372088832 by omega)]
  exact toIntS_l l [] (by simp; omega)
theorem eqIntS_l (r : List Int) : ∀ pre : List Int, (pre ++ r).length < 4611686018427387904 → L (fun k => laws_eqIntS.l0 k (pre ++ r) (pre ++ r) (pre.length : Int)) = some true := by
  induction r with
  | nil =>
    intro pre hb
    rw [L_shift]
    simp only [laws_eqIntS.l0, not_lt_end, if_false, L_const]
  | cons x r ih =>
    intro pre hb
    rw [L_shift]
    have hl : pre.length < 4611686018427387904 := by simp at hb; omega
    simp only [laws_eqIntS.l0, lt_mid, le_nat, if_true, rd_mid, wrap_mid pre x hl]
    rw [app_cons pre x r]
    exact ih (pre ++ [x]) (by simpa using hb)
theorem eqIntS_L (l : List Int) (h : l.length ≤ 1048576) : L (fun k => laws_eqIntS.f k l l) = some true := by
  simp only [laws_eqIntS.f, if_true]
  exact eqIntS_l l [] (by simp; omega)
def toJobP (x : S63) : S61 := ⟨x.f0, x.f1, x.f2, x.f3⟩
theorem toJobS_l (r : List S63) : ∀ pre : List S63, (pre ++ r).length < 4611686018427387904 → L (fun k => laws_toJobS.l0 k (pre ++ r) (pre.map toJobP ++ List.replicate r.length z61) (pre.length : Int)) = some ((pre ++ r).map toJobP) := by
  induction r with
  | nil =>
    intro pre hb
    rw [L_shift]
    simp only [laws_toJobS.l0, not_lt_end, if_false, L_const, List.length_nil, List.replicate_zero]
    simp
  | cons x r ih =>
    intro pre hb
    rw [L_shift]
    have hl : pre.length < 4611686018427387904 := by simp at hb; omega
    have e : rd_T63 (pre ++ x :: r) (pre.length : Int) = x := getD_mid pre x r _
    have e2 : ((pre.length : Int) < ((pre.map toJobP ++ z61 :: List.replicate r.length z61).length : Int)) = True := by
      simp only [List.length_append, List.length_cons, List.length_map]
      exact eq_true (by omega)
    simp only [laws_toJobS.l0, laws_toJob.f, lt_mid, le_nat, if_true, rep_succ, e, e2, wrap_mid pre x hl, Option.bind_some, set_mid (pre.map toJobP) _ _ _ pre (by simp)]
    have := ih (pre ++ [x]) (by simpa using hb)
    simpa [toJobP] using this
theorem toJobS_L (l : List S63) (h : l.length ≤ 1048576) : L (fun k => laws_toJobS.f k l) = some (l.map toJobP) := by
  simp only [laws_toJobS.f, le_nat, if_true, Int.toNat_natCast, if_pos (show l.length ≤ 8796093022208 by omega)]
  exact toJobS_l l [] (by simp; omega)
theorem eqJobS_l (r : List S61) : ∀ pre : List S61, (pre ++ r).length < 4611686018427387904 → L (fun k => laws_eqJobS.l0 k (pre ++ r) (pre ++ r) (pre.length : Int)) = some true := by
  induction r with
  | nil =>
    intro pre hb
    rw [L_shift]
    simp only [laws_eqJobS.l0, not_lt_end, if_false, L_const]
  | cons x r ih =>
    intro pre hb
    rw [L_shift]
    have hl : pre.length < 4611686018427387904 := by simp at hb; omega
    simp only [laws_eqJobS.l0, laws_eqJob.f, lt_mid, le_nat, if_true, wrap_mid pre x hl, Option.bind_some]
    rw [app_cons pre x r]
    exact ih (pre ++ [x]) (by simpa using hb)
theorem eqJobS_L (l : List S61) (h : l.length ≤ 1048576) : L (fun k => laws_eqJobS.f k l l) = some true := by
  simp only [laws_eqJobS.f, if_true]
  exact eqJobS_l l [] (by simp; omega)
theorem ite_and (b c : Bool) : (if b = true then some c else some false) = some (b && c) := by cases b <;> rfl
theorem ite_not_and (b c : Bool) : (if b = true then some false else some c) = some (!b && c) := by cases b <;> rfl
theorem bind_self {α : Type} (o : Option α) : (o.bind fun t => some t) = o := by cases o <;> rfl
def inB (a lo hi : Int) : Bool := decide (lo ≤ a) && decide (a ≤ hi)
theorem inB_iff {a lo hi : Int} : inB a lo hi = true ↔ lo ≤ a ∧ a ≤ hi := by simp [inB]
theorem within_e (a lo hi : Int) : impl_within.f a lo hi = some (inB a lo hi) := by
  unfold impl_within.f inB
  by_cases h : lo ≤ a <;> simp [h]
theorem l1In_e (a lo hi : Int) : spec_l1In.f a lo hi = some (inB a lo hi) := by
  unfold spec_l1In.f inB
  by_cases h : lo ≤ a <;> simp [h]
theorem mx_e (a b : Int) : mx a b = max a b := by
  unfold mx
  omega
theorem l1Most_e (a b : Int) : spec_l1Most.f a b = some (max a b) := by
  unfold spec_l1Most.f
  by_cases h : a > b
  · rw [if_pos h]
    congr 1
    omega
  · rw [if_neg h]
    congr 1
    omega
theorem l1Has_l (x : Int) (r : List Int) : ∀ pre : List Int, (pre ++ r).length < 4611686018427387904 → L (fun k => spec_l1Has.l0 k (pre ++ r) x (pre.length : Int)) = some (decide (x ∈ r)) := by
  induction r with
  | nil =>
    intro pre hb
    rw [L_shift]
    simp only [spec_l1Has.l0, not_lt_end, if_false, L_const]
    simp
  | cons y r ih =>
    intro pre hb
    rw [L_shift]
    have hl : pre.length < 4611686018427387904 := by simp at hb; omega
    simp only [spec_l1Has.l0, lt_mid, le_nat, if_true, rd_mid, wrap_mid pre y hl, L_ite, L_const]
    rw [app_cons pre y r, ih (pre ++ [y]) (by simpa using hb)]
    by_cases h : y = x
    · subst h
      simp
    · rw [if_neg h]
      have : ¬ x = y := fun e => h e.symm
      simp [this]
theorem l1Has_L (l : List Int) (x : Int) (h : l.length < 4611686018427387904) : L (fun k => spec_l1Has.f k l x) = some (decide (x ∈ l)) := l1Has_l x l [] (by simpa using h)
theorem has_l (x : Int) (r : List Int) : ∀ pre : List Int, (pre ++ r).length < 4611686018427387904 → L (fun k => impl_has.l0 k x (pre ++ r) ((pre ++ r).length : Int) (pre.length : Int)) = some (decide (x ∈ r)) := by
  induction r with
  | nil =>
    intro pre hb
    rw [L_shift]
    simp only [impl_has.l0, not_lt_end, if_false, L_const]
    simp
  | cons y r ih =>
    intro pre hb
    rw [L_shift]
    have hl : pre.length < 4611686018427387904 := by simp at hb; omega
    simp only [impl_has.l0, lt_mid, le_nat, if_true, rd_mid, wrap_mid pre y hl, L_ite, L_const]
    rw [app_cons pre y r, ih (pre ++ [y]) (by simpa using hb)]
    by_cases h : y = x
    · subst h
      simp
    · rw [if_neg h]
      have : ¬ x = y := fun e => h e.symm
      simp [this]
theorem has_L (l : List Int) (x : Int) (h : l.length < 4611686018427387904) : L (fun k => impl_has.f k l x) = some (decide (x ∈ l)) := has_l x l [] (by simpa using h)
theorem perm_of : ∀ (a b : List Int), a.Nodup → (∀ x ∈ a, x ∈ b) → b.length ≤ a.length → a.Perm b
  | [], b, _, _, hl => by
    have : b = [] := List.length_eq_zero_iff.1 (by simpa using hl)
    rw [this]
  | x :: a, b, hn, hs, hl => by
    have hx : x ∈ b := hs x List.mem_cons_self
    have hn' := List.nodup_cons.1 hn
    have hp := List.perm_cons_erase hx
    have h1 : (b.erase x).length ≤ a.length := by
      have := List.length_erase_of_mem hx
      simp at hl
      omega
    have h2 : ∀ y ∈ a, y ∈ b.erase x := fun y hy => (List.mem_erase_of_ne (by rintro rfl; exact hn'.1 hy)).2 (hs y (List.mem_cons_of_mem _ hy))
    exact ((perm_of a (b.erase x) hn'.2 h2 h1).cons x).trans hp.symm
def numsTo (n : Nat) : List Int := (List.range n).map (fun i : Nat => (i : Int))
theorem numsTo_length (n : Nat) : (numsTo n).length = n := by simp [numsTo]
theorem mem_numsTo {n : Nat} {x : Int} : x ∈ numsTo n ↔ 0 ≤ x ∧ x < n := by
  simp only [numsTo, List.mem_map, List.mem_range]
  constructor
  · rintro ⟨i, hi, rfl⟩
    omega
  · intro h
    exact ⟨x.toNat, by omega, by omega⟩
theorem numsTo_nodup (n : Nat) : (numsTo n).Nodup := by
  unfold numsTo
  exact List.Pairwise.map _ (fun a b h => by omega) List.nodup_range
theorem numsTo_succ (n : Nat) : numsTo (n + 1) = numsTo n ++ [(n : Int)] := by
  unfold numsTo
  rw [List.range_succ, List.map_append]
  rfl
/-- Different numbers of n things, none of them in pre. -/
def diffB (n : Int) : List Int → List Int → Bool
  | _, [] => true
  | pre, x :: r => inB x 0 (n - 1) && (!decide (x ∈ pre) && diffB n (pre ++ [x]) r)
theorem diffB_iff (n : Int) : ∀ (r pre : List Int), diffB n pre r = true ↔ (∀ x ∈ r, 0 ≤ x ∧ x < n) ∧ r.Nodup ∧ ∀ x ∈ r, x ∉ pre
  | [], pre => by simp [diffB]
  | x :: r, pre => by
    rw [diffB, Bool.and_eq_true, Bool.and_eq_true, inB_iff, diffB_iff n r (pre ++ [x])]
    simp only [Bool.not_eq_true', decide_eq_false_iff_not, List.mem_cons, List.nodup_cons, List.mem_append, List.not_mem_nil, or_false, not_or]
    constructor
    · rintro ⟨h1, h2, h3, h4, h5⟩
      refine ⟨?_, ⟨fun hx => (h5 x hx).2 rfl, h4⟩, ?_⟩
      · rintro y (rfl | hy)
        · omega
        · exact h3 y hy
      · rintro y (rfl | hy)
        · exact h2
        · exact (h5 y hy).1
    · rintro ⟨h1, ⟨h2, h3⟩, h4⟩
      exact ⟨⟨(h1 x (.inl rfl)).1, by have := (h1 x (.inl rfl)).2; omega⟩, h4 x (.inl rfl), fun y hy => h1 y (.inr hy), h3, fun y hy => ⟨h4 y (.inr hy), fun e => h2 (e ▸ hy)⟩⟩
/-- An order of n jobs. -/
def orderB (n : Nat) (l : List Int) : Bool := decide ((l.length : Int) = n) && diffB n [] l
def IsOrd (n : Nat) (l : List Int) : Prop := l.length = n ∧ (∀ x ∈ l, 0 ≤ x ∧ x < n) ∧ l.Nodup
theorem orderB_iff {n : Nat} {l : List Int} : orderB n l = true ↔ IsOrd n l := by
  simp only [orderB, Bool.and_eq_true, decide_eq_true_eq, diffB_iff, IsOrd]
  constructor
  · rintro ⟨h, h1, h2, _⟩
    exact ⟨by omega, h1, h2⟩
  · rintro ⟨h, h1, h2⟩
    exact ⟨by omega, h1, h2, by simp⟩
theorem IsOrd.perm {n : Nat} {l : List Int} (h : IsOrd n l) : l.Perm (numsTo n) := perm_of l _ h.2.2 (fun x hx => mem_numsTo.2 (h.2.1 x hx)) (by rw [numsTo_length, h.1]; exact Nat.le_refl _)
theorem IsOrd.of_perm {n : Nat} {l : List Int} (h : l.Perm (numsTo n)) : IsOrd n l := ⟨by rw [h.length_eq, numsTo_length], fun x hx => mem_numsTo.1 (h.mem_iff.1 hx), h.nodup_iff.2 (numsTo_nodup n)⟩
theorem IsOrd.mem {n : Nat} {l : List Int} (h : IsOrd n l) {x : Int} : x ∈ l ↔ 0 ≤ x ∧ x < n := by rw [h.perm.mem_iff, mem_numsTo]
theorem isOrd_all {n : Nat} {l : List Int} (hl : l.length = n) (h : ∀ j : Nat, j < n → (j : Int) ∈ l) : IsOrd n l :=
  IsOrd.of_perm (perm_of _ l (numsTo_nodup n) (fun x hx => by
    obtain ⟨h0, h1⟩ := mem_numsTo.1 hx
    have := h x.toNat (by omega)
    rwa [Int.toNat_of_nonneg h0] at this) (by rw [numsTo_length, hl]; exact Nat.le_refl _)).symm
theorem l2Order_l (n : Nat) (l : List Int) (hn : n ≤ 1048576) (hl : l.length < 4611686018427387904) : ∀ (d i : Nat), i + d = n → L (fun k => spec_l2Order.l0 k (n : Int) l (i : Int)) = some (decide (∀ j : Nat, j < n → i ≤ j → (j : Int) ∈ l))
  | 0, i, hi => by
    rw [L_shift]
    simp only [spec_l2Order.l0, if_neg (show ¬ ((i : Int) < (n : Int)) by omega), L_const]
    congr 1
    symm
    rw [decide_eq_true_eq]
    intro j h1 h2
    omega
  | d + 1, i, hi => by
    rw [L_shift]
    have e : wrap64 ((i : Int) + 1) = ((i + 1 : Nat) : Int) := by
      rw [wrap_id (by omega) (by omega)]
      omega
    simp only [spec_l2Order.l0, if_pos (show ((i : Int) < (n : Int)) by omega), L_bind, l1Has_L l _ hl, Option.bind_some, e, L_ite, L_const]
    rw [l2Order_l n l hn hl d (i + 1) (by omega), ite_and]
    congr 1
    rw [← Bool.decide_and]
    apply decide_eq_decide.2
    constructor
    · rintro ⟨h1, h2⟩ j h4 h3
      rcases Nat.eq_or_lt_of_le h3 with rfl | h5
      · exact h1
      · exact h2 j h4 h5
    · intro h
      exact ⟨h i (by omega) (Nat.le_refl _), fun j h4 h3 => h j h4 (by omega)⟩
theorem l2Order_L (n : Nat) (l : List Int) (hn : n ≤ 1048576) (hl : l.length < 4611686018427387904) : L (fun k => spec_l2Order.f k (n : Int) l) = some (decide (n ≤ 8) && orderB n l) := by
  have hj : ∀ b : Bool, L (fun k => spec_l2Order.j0 k (n : Int) l b) = some (!b && decide (∀ j : Nat, j < n → (j : Int) ∈ l)) := by
    intro b
    rw [L_shift]
    simp only [spec_l2Order.j0, L_ite, L_const]
    rw [show ((0 : Int)) = ((0 : Nat) : Int) from rfl]
    rw [l2Order_l n l hn hl n 0 (by omega), ite_not_and]
    simp
  simp only [spec_l2Order.f, l1In_e, Option.bind_some, L_ite, hj]
  by_cases h8 : n ≤ 8
  · rw [if_pos (by rw [inB_iff]; omega)]
    simp only [h8, decide_true, Bool.true_and]
    congr 1
    by_cases hl2 : l.length = n
    · have e : ((l.length : Int) != (n : Int)) = false := by rw [hl2]; simp
      rw [e]
      simp only [Bool.not_false, Bool.true_and]
      by_cases h : ∀ j : Nat, j < n → (j : Int) ∈ l
      · rw [decide_eq_true h, orderB_iff.2 (isOrd_all hl2 h)]
      · rw [decide_eq_false h]
        symm
        rw [Bool.eq_false_iff]
        intro ho
        exact h (fun j hj => (orderB_iff.1 ho).mem.2 (by omega))
    · have e : ((l.length : Int) != (n : Int)) = true := by simp; omega
      rw [e]
      simp only [Bool.not_true, Bool.false_and]
      symm
      rw [Bool.eq_false_iff]
      intro ho
      exact hl2 (orderB_iff.1 ho).1
  · rw [if_neg (by rw [inB_iff]; omega)]
    simp [h8]
theorem isNumber_e (a n : Int) (h0 : -9223372036854775807 ≤ n) (h1 : n ≤ 9223372036854775807) : impl_isNumber.f a n = some (inB a 0 (n - 1)) := by
  simp only [impl_isNumber.f, within_e, Option.bind_some]
  rw [wrap_id (by omega) (by omega)]
theorem take_mid {α : Type} (pre : List α) (r : List α) : (pre ++ r).take (pre.length : Int).toNat = pre := by simp
theorem areDifferent_l (n : Nat) (hn : n ≤ 1048576) (r : List Int) : ∀ pre : List Int, (pre ++ r).length < 4611686018427387904 → L (fun k => impl_areDifferent.l0 k (n : Int) (pre ++ r) (pre ++ r) ((pre ++ r).length : Int) (pre.length : Int)) = some (diffB n pre r) := by
  induction r with
  | nil =>
    intro pre hb
    rw [L_shift]
    simp only [impl_areDifferent.l0, not_lt_end, if_false, L_const]
    simp [diffB]
  | cons x r ih =>
    intro pre hb
    rw [L_shift]
    have hl : pre.length < 4611686018427387904 := by simp at hb; omega
    have e : ((pre.length : Int) ≤ ((pre ++ x :: r).length : Int)) = True := eq_true (by simp; omega)
    simp only [impl_areDifferent.l0, lt_mid, le_nat, if_true, rd_mid, wrap_mid pre x hl, isNumber_e x (n : Int) (by omega) (by omega), Option.bind_some, e, take_mid, L_ite, L_bind, has_L pre x hl, L_const]
    rw [app_cons pre x r, ih (pre ++ [x]) (by simpa using hb), ite_not_and, ite_and]
    rfl
theorem areDifferent_L (n : Nat) (l : List Int) (hn : n ≤ 1048576) (hl : l.length < 4611686018427387904) : L (fun k => impl_areDifferent.f k (n : Int) l) = some (diffB n [] l) := areDifferent_l n hn l [] (by simpa using hl)
theorem isOrder_L (n : Nat) (l : List Int) (hn : n ≤ 1048576) (hl : l.length < 4611686018427387904) : L (fun k => impl_isOrder.f k (n : Int) l) = some (orderB n l) := by
  simp only [impl_isOrder.f, bind_self, L_ite, areDifferent_L n l hn hl, L_const, orderB]
  by_cases h : (l.length : Int) = n <;> simp [h]
def jobB (j : S61) : Bool := inB j.f0 1 50 && (inB j.f1 0 50 && (inB j.f2 0 500 && inB j.f3 0 500))
def goodB (l : List S61) : Bool := l.all jobB && decide ((l.length : Int) ≤ 8)
structure JobOk (j : S61) : Prop where
  t0 : 1 ≤ j.f0
  t1 : j.f0 ≤ 50
  w0 : 0 ≤ j.f1
  w1 : j.f1 ≤ 50
  r0 : 0 ≤ j.f2
  r1 : j.f2 ≤ 500
  d0 : 0 ≤ j.f3
  d1 : j.f3 ≤ 500
def Good (l : List S61) : Prop := l.length ≤ 8 ∧ ∀ j ∈ l, JobOk j
theorem goodB_iff {l : List S61} : goodB l = true ↔ Good l := by
  simp only [goodB, Good, Bool.and_eq_true, List.all_eq_true, decide_eq_true_eq, jobB, inB_iff]
  constructor
  · rintro ⟨h, hl⟩
    exact ⟨by omega, fun j hj => by
      obtain ⟨⟨a, b⟩, ⟨c, d⟩, ⟨e, f⟩, g, i⟩ := h j hj
      exact ⟨a, b, c, d, e, f, g, i⟩⟩
  · rintro ⟨hl, h⟩
    exact ⟨fun j hj => ⟨⟨(h j hj).t0, (h j hj).t1⟩, ⟨(h j hj).w0, (h j hj).w1⟩, ⟨(h j hj).r0, (h j hj).r1⟩, (h j hj).d0, (h j hj).d1⟩, by omega⟩
theorem l2Job_e (j : S61) : spec_l2Job.f j.f0 j.f1 j.f2 j.f3 = some (jobB j) := by
  simp only [spec_l2Job.f, l1In_e, Option.bind_some, ite_and, jobB]
theorem l2Good_l (r : List S61) : ∀ pre : List S61, (pre ++ r).length < 4611686018427387904 → L (fun k => spec_l2Good.l0 k (pre ++ r) (pre.length : Int)) = some (r.all jobB && decide (((pre ++ r).length : Int) ≤ 8)) := by
  induction r with
  | nil =>
    intro pre hb
    rw [L_shift]
    simp only [spec_l2Good.l0, not_lt_end, if_false, L_const]
    simp
  | cons x r ih =>
    intro pre hb
    rw [L_shift]
    have hl : pre.length < 4611686018427387904 := by simp at hb; omega
    have e : rd_T61 (pre ++ x :: r) (pre.length : Int) = x := getD_mid pre x r _
    simp only [spec_l2Good.l0, lt_mid, le_nat, if_true, e, wrap_mid pre x hl, l2Job_e, Option.bind_some, L_ite, L_const]
    rw [app_cons pre x r, ih (pre ++ [x]) (by simpa using hb), ite_and]
    rw [List.all_cons, Bool.and_assoc]
theorem l2Good_L (l : List S61) (h : l.length < 4611686018427387904) : L (fun k => spec_l2Good.f k l) = some (goodB l) := by
  have := l2Good_l l [] (by simpa using h)
  simpa [goodB, spec_l2Good.f] using this
theorem isDate_e (n : Int) : impl_isDate.f n = some (inB n 0 500) := by
  simp only [impl_isDate.f, within_e, Option.bind_some]
theorem IsJobs_l (r : List S61) : ∀ pre : List S61, (pre ++ r).length < 4611686018427387904 → L (fun k => impl_IsJobs.l0 k (pre ++ r) ((pre ++ r).length : Int) (pre.length : Int)) = some (r.all jobB) := by
  induction r with
  | nil =>
    intro pre hb
    rw [L_shift]
    simp only [impl_IsJobs.l0, not_lt_end, if_false, L_const]
    simp
  | cons x r ih =>
    intro pre hb
    rw [L_shift]
    have hl : pre.length < 4611686018427387904 := by simp at hb; omega
    have e : rd_T61 (pre ++ x :: r) (pre.length : Int) = x := getD_mid pre x r _
    simp only [impl_IsJobs.l0, lt_mid, le_nat, if_true, e, wrap_mid pre x hl, within_e, isDate_e, Option.bind_some, L_ite, L_const]
    rw [app_cons pre x r, ih (pre ++ [x]) (by simpa using hb)]
    simp only [ite_and, List.all_cons, jobB, Bool.and_assoc]
theorem IsJobs_L (l : List S61) (h : l.length < 4611686018427387904) : L (fun k => impl_IsJobs.f k l) = some (goodB l) := by
  have := IsJobs_l l [] (by simpa using h)
  simp only [List.nil_append, List.length_nil, Int.natCast_zero] at this
  simp only [impl_IsJobs.f, L_ite, L_const, this, goodB]
  by_cases h8 : (l.length : Int) ≤ 8
  · rw [if_neg (by omega)]
    simp [h8]
  · rw [if_pos (by omega)]
    simp [h8]
def jobAt (l : List S61) (x : Int) : S61 := l.getD x.toNat z61
theorem jobAt_mem {l : List S61} {x : Int} (h0 : 0 ≤ x) (h1 : x < l.length) : jobAt l x ∈ l := by
  unfold jobAt
  rw [List.getD_eq_getElem?_getD, List.getElem?_eq_getElem (by omega)]
  exact List.getElem_mem _
/-- The ends, put into out by the jobs' numbers. -/
def endsF (l : List S61) : List Int → List Int → Int → List Int
  | [], out, _ => out
  | x :: r, out, now => endsF l r (out.set x.toNat (max now (jobAt l x).f2 + (jobAt l x).f0)) (max now (jobAt l x).f2 + (jobAt l x).f0)
def startsF (l : List S61) : List Int → List Int → Int → List Int
  | [], out, _ => out
  | x :: r, out, now => startsF l r (out.set x.toNat (max now (jobAt l x).f2)) (max now (jobAt l x).f2 + (jobAt l x).f0)
def endsP (l : List S61) (o : List Int) : List Int := endsF l o (List.replicate l.length 0) 0
def startsP (l : List S61) (o : List Int) : List Int := startsF l o (List.replicate l.length 0) 0
theorem endsF_length (l : List S61) : ∀ (o out : List Int) (now : Int), (endsF l o out now).length = out.length
  | [], out, now => rfl
  | x :: r, out, now => by rw [endsF, endsF_length l r, List.length_set]
theorem startsF_length (l : List S61) : ∀ (o out : List Int) (now : Int), (startsF l o out now).length = out.length
  | [], out, now => rfl
  | x :: r, out, now => by rw [startsF, startsF_length l r, List.length_set]
theorem endsP_length (l : List S61) (o : List Int) : (endsP l o).length = l.length := by rw [endsP, endsF_length, List.length_replicate]
theorem startsP_length (l : List S61) (o : List Int) : (startsP l o).length = l.length := by rw [startsP, startsF_length, List.length_replicate]
theorem ends_starts (l : List S61) : ∀ (o E S : List Int) (now : Int), E.length = l.length → S.length = l.length → (∀ x ∈ o, 0 ≤ x ∧ x < (l.length : Int)) →
    ∀ j : Nat, j < l.length → ((j : Int) ∈ o ∨ E.getD j 0 = S.getD j 0 + (l.getD j z61).f0) → (endsF l o E now).getD j 0 = (startsF l o S now).getD j 0 + (l.getD j z61).f0
  | [], E, S, now, _, _, _, j, _, h => by
    rcases h with h | h
    · cases h
    · exact h
  | x :: r, E, S, now, hE, hS, hx, j, hj, h => by
    rw [endsF, startsF]
    refine ends_starts l r _ _ _ (by rw [List.length_set, hE]) (by rw [List.length_set, hS]) (fun y hy => hx y (List.mem_cons_of_mem _ hy)) j hj ?_
    have hx0 := hx x List.mem_cons_self
    by_cases hr : (j : Int) ∈ r
    · exact .inl hr
    · right
      rw [getD_set, getD_set, hE, hS]
      by_cases e : x.toNat = j
      · rw [if_pos ⟨e, hj⟩, if_pos ⟨e, hj⟩]
        unfold jobAt
        rw [e]
      · rw [if_neg (fun h => e h.1), if_neg (fun h => e h.1)]
        rcases h with h | h
        · rcases List.mem_cons.1 h with h | h
          · exact absurd (by omega) e
          · exact absurd h hr
        · exact h
theorem ends_bounds (l : List S61) (hg : Good l) : ∀ (o E : List Int) (now : Int), 0 ≤ now → now ≤ 500 + 50 * (8 - o.length : Int) → o.length ≤ 8 → (∀ x ∈ o, 0 ≤ x ∧ x < (l.length : Int)) → (∀ v ∈ E, 0 ≤ v ∧ v ≤ 900) → ∀ v ∈ endsF l o E now, 0 ≤ v ∧ v ≤ 900
  | [], E, now, _, _, _, _, hE => hE
  | x :: r, E, now, h0, h1, hl, hx, hE => by
    rw [endsF]
    have hx0 := hx x List.mem_cons_self
    have hj := hg.2 _ (jobAt_mem hx0.1 hx0.2)
    have a0 := hj.t0
    have a1 := hj.t1
    have a2 := hj.r0
    have a3 := hj.r1
    simp only [List.length_cons] at h1 hl
    refine ends_bounds l hg r _ _ (by omega) (by omega) (by omega) (fun y hy => hx y (List.mem_cons_of_mem _ hy)) (fun v hv => ?_)
    rcases List.mem_or_eq_of_mem_set hv with h | h
    · exact hE v h
    · rw [h]
      omega
theorem endsP_bounds {l : List S61} {o : List Int} (hg : Good l) (ho : IsOrd l.length o) : ∀ v ∈ endsP l o, 0 ≤ v ∧ v ≤ 900 :=
  ends_bounds l hg o _ 0 (by omega) (by have := ho.1; have := hg.1; omega) (by have := ho.1; have := hg.1; omega) ho.2.1 (fun v hv => by rw [(List.mem_replicate.1 hv).2]; omega)
theorem endsP_starts {l : List S61} {o : List Int} (ho : IsOrd l.length o) (j : Nat) (hj : j < l.length) : (endsP l o).getD j 0 = (startsP l o).getD j 0 + (l.getD j z61).f0 :=
  ends_starts l o _ _ 0 (by simp) (by simp) ho.2.1 j hj (.inl (ho.mem.2 ⟨by omega, by omega⟩))
theorem endsOf_l (l : List S61) (hg : Good l) (r : List Int) (hx : ∀ x ∈ r, 0 ≤ x ∧ x < (l.length : Int)) : ∀ (pre E : List Int) (now : Int), (pre ++ r).length < 4611686018427387904 → E.length = l.length → 0 ≤ now → now + 50 * r.length ≤ 900 → r.length ≤ 8 →
    L (fun k => impl_endsOf.l0 k l E now (pre ++ r) ((pre ++ r).length : Int) (pre.length : Int)) = some (endsF l r E now) := by
  induction r with
  | nil =>
    intro pre E now hb _ _ _ _
    rw [L_shift]
    simp only [impl_endsOf.l0, not_lt_end, if_false, L_const, endsF]
  | cons x r ih =>
    intro pre E now hb hE h0 h1 h2
    rw [L_shift]
    have hl : pre.length < 4611686018427387904 := by simp at hb; omega
    have hx0 := hx x List.mem_cons_self
    have hj := hg.2 _ (jobAt_mem hx0.1 hx0.2)
    have a0 := hj.t0
    have a1 := hj.t1
    have a2 := hj.r0
    have a3 := hj.r1
    simp only [List.length_cons] at h1 h2
    have e : rd_T61 l x = jobAt l x := rfl
    simp only [impl_endsOf.l0, lt_mid, le_nat, if_true, rd_mid, wrap_mid pre x hl, e, mx_e, if_pos hx0.1, if_pos hx0.2, if_pos (show x < (E.length : Int) by omega), wrap_id (show -9223372036854775808 ≤ max now (jobAt l x).f2 + (jobAt l x).f0 by omega) (show max now (jobAt l x).f2 + (jobAt l x).f0 ≤ 9223372036854775807 by omega)]
    rw [app_cons pre x r, endsF]
    exact ih (fun y hy => hx y (List.mem_cons_of_mem _ hy)) (pre ++ [x]) _ _ (by simpa using hb) (by rw [List.length_set, hE]) (by omega) (by omega) (by omega)
theorem endsOf_L (l : List S61) (o : List Int) (hg : Good l) (ho : IsOrd l.length o) : L (fun k => impl_endsOf.f k l o) = some (endsP l o) := by
  have h8 := hg.1
  have hl := ho.1
  simp only [impl_endsOf.f, le_nat, if_true, Int.toNat_natCast, if_pos (show l.length ≤ 35184372088832 by omega)]
  exact endsOf_l l hg o ho.2.1 [] _ 0 (by simp; omega) (by simp) (by omega) (by omega) (by omega)
theorem l2Starts_l (l : List S61) (hg : Good l) (r : List Int) (hx : ∀ x ∈ r, 0 ≤ x ∧ x < (l.length : Int)) : ∀ (pre E : List Int) (now : Int), (pre ++ r).length < 4611686018427387904 → E.length = l.length → 0 ≤ now → now + 50 * r.length ≤ 900 → r.length ≤ 8 →
    L (fun k => spec_l2Starts.l0 k l (pre ++ r) E now (pre.length : Int)) = some (startsF l r E now) := by
  induction r with
  | nil =>
    intro pre E now hb _ _ _ _
    rw [L_shift]
    simp only [spec_l2Starts.l0, not_lt_end, if_false, L_const, startsF]
  | cons x r ih =>
    intro pre E now hb hE h0 h1 h2
    rw [L_shift]
    have hl : pre.length < 4611686018427387904 := by simp at hb; omega
    have hx0 := hx x List.mem_cons_self
    have hj := hg.2 _ (jobAt_mem hx0.1 hx0.2)
    have a0 := hj.t0
    have a1 := hj.t1
    have a2 := hj.r0
    have a3 := hj.r1
    simp only [List.length_cons] at h1 h2
    have e : rd_T61 l x = jobAt l x := rfl
    have e2 : rd (E.set x.toNat (max now (jobAt l x).f2)) x = max now (jobAt l x).f2 := by
      show (E.set x.toNat (max now (jobAt l x).f2)).getD x.toNat 0 = _
      rw [getD_set, if_pos ⟨rfl, by omega⟩]
    simp only [spec_l2Starts.l0, lt_mid, le_nat, if_true, rd_mid, wrap_mid pre x hl, e, l1Most_e, Option.bind_some, e2, if_pos hx0.1, if_pos hx0.2, if_pos (show x < (E.length : Int) by omega), wrap_id (show -9223372036854775808 ≤ max now (jobAt l x).f2 + (jobAt l x).f0 by omega) (show max now (jobAt l x).f2 + (jobAt l x).f0 ≤ 9223372036854775807 by omega)]
    rw [app_cons pre x r, startsF]
    exact ih (fun y hy => hx y (List.mem_cons_of_mem _ hy)) (pre ++ [x]) _ _ (by simpa using hb) (by rw [List.length_set, hE]) (by omega) (by omega) (by omega)
theorem l2Starts_L (l : List S61) (o : List Int) (hg : Good l) (ho : IsOrd l.length o) : L (fun k => spec_l2Starts.f k l o) = some (startsP l o) := by
  have h8 := hg.1
  have hl := ho.1
  simp only [spec_l2Starts.f, le_nat, if_true, Int.toNat_natCast, if_pos (show l.length ≤ 35184372088832 by omega)]
  exact l2Starts_l l hg o ho.2.1 [] _ 0 (by simp; omega) (by simp) (by omega) (by omega) (by omega)
theorem l2Ends_l (l : List S61) (T : List Int) (hT : T.length = l.length) (hB : ∀ j : Nat, j < l.length → -1000000 ≤ T.getD j 0 + (l.getD j z61).f0 ∧ T.getD j 0 + (l.getD j z61).f0 ≤ 1000000) (h8 : l.length ≤ 8) : ∀ (d i : Nat) (S : List Int), i + d = l.length → S.length = l.length →
    (∀ j : Nat, j < l.length → S.getD j 0 = if j < i then T.getD j 0 + (l.getD j z61).f0 else T.getD j 0) →
    ∃ R : List Int, L (fun k => spec_l2Ends.l0 k l S (i : Int)) = some R ∧ R.length = l.length ∧ ∀ j : Nat, j < l.length → R.getD j 0 = T.getD j 0 + (l.getD j z61).f0
  | 0, i, S, hi, hS, h => by
    refine ⟨S, ?_, hS, fun j hj => by rw [h j hj, if_pos (by omega)]⟩
    rw [L_shift]
    simp only [spec_l2Ends.l0, if_neg (show ¬ (i : Int) < (l.length : Int) by omega), L_const]
  | d + 1, i, S, hi, hS, h => by
    rw [L_shift]
    have hb := hB i (by omega)
    have e1 : rd S (i : Int) = T.getD i 0 := by
      show S.getD (i : Int).toNat 0 = _
      rw [Int.toNat_natCast, h i (by omega), if_neg (by omega)]
    have e2 : rd_T61 l (i : Int) = l.getD i z61 := by
      show l.getD (i : Int).toNat z61 = _
      rw [Int.toNat_natCast]
    have e3 : wrap64 ((i : Int) + 1) = ((i + 1 : Nat) : Int) := by
      rw [wrap_id (by omega) (by omega)]
      omega
    simp only [spec_l2Ends.l0, if_pos (show (i : Int) < (l.length : Int) by omega), if_pos (show (i : Int) < (S.length : Int) by omega), le_nat, if_true, e1, e2, e3, Int.toNat_natCast, wrap_id (show -9223372036854775808 ≤ T.getD i 0 + (l.getD i z61).f0 by omega) (by omega)]
    refine l2Ends_l l T hT hB h8 d (i + 1) _ (by omega) (by rw [List.length_set, hS]) (fun j hj => ?_)
    rw [getD_set]
    by_cases e : i = j
    · subst e
      rw [if_pos ⟨rfl, by omega⟩, if_pos (by omega)]
    · rw [if_neg (fun h => e h.1), h j hj]
      by_cases hji : j < i
      · rw [if_pos hji, if_pos (by omega)]
      · rw [if_neg hji, if_neg (by omega)]
theorem l2Ends_L (l : List S61) (o : List Int) (hg : Good l) (ho : IsOrd l.length o) : L (fun k => spec_l2Ends.f k l o) = some (endsP l o) := by
  simp only [spec_l2Ends.f, L_bind, l2Starts_L l o hg ho, Option.bind_some]
  have hb := endsP_bounds hg ho
  obtain ⟨R, h1, h2, h3⟩ := l2Ends_l l (startsP l o) (startsP_length l o) (fun j hj => by
    rw [← endsP_starts ho j hj]
    have := hb _ (getD_mem (l := endsP l o) (j := j) (by rw [endsP_length]; exact hj))
    omega) hg.1 l.length 0 (startsP l o) (by omega) (startsP_length l o) (fun j hj => by rw [if_neg (by omega)])
  rw [show (0 : Int) = ((0 : Nat) : Int) from rfl, h1]
  congr 1
  refine ext_getD (by rw [h2, endsP_length]) (fun j hj => ?_)
  rw [h3 j (by omega), endsP_starts ho j (by omega)]
def maxTo (v : Int) (l : List Int) : Int := l.foldl max v
theorem mul_bd {w e : Int} (w0 : 0 ≤ w) (w1 : w ≤ 50) (e0 : 0 ≤ e) (e1 : e ≤ 2000) : 0 ≤ w * e ∧ w * e ≤ 100000 := by
  have h1 : w * e ≤ 50 * e := Int.mul_le_mul_of_nonneg_right w1 e0
  have h2 : 0 ≤ w * e := Int.mul_nonneg w0 e0
  omega
/-- What a job with an end adds to a value. -/
def addF (v : Int) (j : S61) (e obj : Int) (first : Bool) : Int :=
  if obj = 1 then max v e else if obj = 2 then v + e else if obj = 3 then v + j.f1 * e else if obj = 4 then (if first = true then e - j.f3 else max v (e - j.f3))
  else if obj = 5 then v + max 0 (e - j.f3) else if obj = 6 then v + j.f1 * max 0 (e - j.f3) else if e - j.f3 ≤ 0 then v else if obj = 7 then v + 1 else v + j.f1
theorem addF_bd (v : Int) (j : S61) (e obj : Int) (first : Bool) (hj : JobOk j) (he0 : 0 ≤ e) (he1 : e ≤ 2000) {B : Int} (hB : 0 ≤ B) (hv0 : -B ≤ v) (hv1 : v ≤ B) : -(B + 100000) ≤ addF v j e obj first ∧ addF v j e obj first ≤ B + 100000 := by
  have a2 := hj.d0
  have a3 := hj.d1
  have m1 := mul_bd hj.w0 hj.w1 he0 he1
  have m2 := mul_bd hj.w0 hj.w1 (show 0 ≤ max 0 (e - j.f3) by omega) (by omega)
  have w0 := hj.w0
  have w1 := hj.w1
  unfold addF
  repeat' split
  all_goals omega
theorem add_e (v : Int) (j : S61) (e obj : Int) (first : Bool) (hj : JobOk j) (he0 : 0 ≤ e) (he1 : e ≤ 2000) (hv0 : -1000000000 ≤ v) (hv1 : v ≤ 1000000000) : impl_add.f v j.f0 j.f1 j.f2 j.f3 e obj first = some (addF v j e obj first) := by
  have a2 := hj.d0
  have a3 := hj.d1
  have m1 := mul_bd hj.w0 hj.w1 he0 he1
  have m2 := mul_bd hj.w0 hj.w1 (show 0 ≤ max 0 (e - j.f3) by omega) (by omega)
  have w0 := hj.w0
  have w1 := hj.w1
  unfold impl_add.f addF
  simp only [mx_e]
  rw [wrap_id (show -9223372036854775808 ≤ e - j.f3 by omega) (by omega), wrap_id (show -9223372036854775808 ≤ v + e by omega) (by omega), wrap_id (show -9223372036854775808 ≤ j.f1 * e by omega) (by omega), wrap_id (show -9223372036854775808 ≤ v + j.f1 * e by omega) (by omega), wrap_id (show -9223372036854775808 ≤ v + max 0 (e - j.f3) by omega) (by omega), wrap_id (show -9223372036854775808 ≤ j.f1 * max 0 (e - j.f3) by omega) (by omega), wrap_id (show -9223372036854775808 ≤ v + j.f1 * max 0 (e - j.f3) by omega) (by omega), wrap_id (show -9223372036854775808 ≤ v + 1 by omega) (by omega), wrap_id (show -9223372036854775808 ≤ v + j.f1 by omega) (by omega)]
  repeat' split
  all_goals first | rfl | contradiction
/-- The value of an objective for ends. -/
def valF (obj : Int) : Int → Bool → List S61 → List Int → Int
  | v, _, [], _ => v
  | v, _, _, [] => v
  | v, first, j :: js, e :: es => valF obj (addF v j e obj first) false js es
def valP (obj : Int) (l : List S61) (es : List Int) : Int := valF obj 0 true l es
theorem valueOfEnds_l (obj : Int) (r : List S61) (hr : ∀ j ∈ r, JobOk j) : ∀ (pre : List S61) (pe es : List Int) (v : Int), (pre ++ r).length < 4611686018427387904 → pe.length = pre.length → es.length = r.length → (∀ e ∈ es, 0 ≤ e ∧ e ≤ 2000) → -(100000 * (1000 - r.length : Int)) ≤ v → v ≤ 100000 * (1000 - r.length : Int) → r.length ≤ 100 →
    L (fun k => impl_valueOfEnds.l0 k (pe ++ es) obj v (pre ++ r) ((pre ++ r).length : Int) (pre.length : Int)) = some (valF obj v (decide (pre.length = 0)) r es) := by
  induction r with
  | nil =>
    intro pre pe es v hb hpe hes _ _ _ _
    rw [L_shift]
    simp only [impl_valueOfEnds.l0, not_lt_end, if_false, L_const, valF]
  | cons x r ih =>
    intro pre pe es v hb hpe hes he h0 h1 h2
    match es, hes with
    | y :: es, hes =>
      rw [L_shift]
      have hl : pre.length < 4611686018427387904 := by simp at hb; omega
      have e : rd_T61 (pre ++ x :: r) (pre.length : Int) = x := getD_mid pre x r _
      have e1 : rd (pe ++ y :: es) (pre.length : Int) = y := by rw [← hpe]; exact rd_mid pe y es
      have e2 : ((pre.length : Int) < ((pe ++ y :: es).length : Int)) = True := by rw [← hpe]; exact lt_mid pe y es
      have e3 : ((pre.length : Int) == 0) = decide (pre.length = 0) := by
        by_cases h : pre.length = 0
        · rw [h]; rfl
        · rw [decide_eq_false h]
          simp
          exact fun e => h (by rw [e]; rfl)
      have hx := hr x List.mem_cons_self
      have hy := he y List.mem_cons_self
      simp only [List.length_cons] at h0 h1 h2 hes
      have hbd := addF_bd v x y obj (decide (pre.length = 0)) hx hy.1 hy.2 (B := 100000 * (1000 - (r.length + 1 : Nat) : Int)) (by omega) (by omega) (by omega)
      simp only [impl_valueOfEnds.l0, lt_mid, le_nat, if_true, e, e1, e2, e3, wrap_mid pre x hl, add_e v x y obj _ hx hy.1 hy.2 (by omega) (by omega), Option.bind_some]
      rw [app_cons pre x r, app_cons pe y es, ih (fun j hj => hr j (List.mem_cons_of_mem _ hj)) (pre ++ [x]) (pe ++ [y]) es _ (by simpa using hb) (by simp [hpe]) (by omega) (fun e he' => he e (List.mem_cons_of_mem _ he')) (by omega) (by omega) (by omega), valF]
      simp
theorem valueOfEnds_L (l : List S61) (hg : Good l) (es : List Int) (hes : es.length = l.length) (he : ∀ e ∈ es, 0 ≤ e ∧ e ≤ 2000) (obj : Int) : L (fun k => impl_valueOfEnds.f k l es obj) = some (valP obj l es) := by
  have h8 := hg.1
  have := valueOfEnds_l obj l hg.2 [] [] es 0 (by simp; omega) rfl hes he (by omega) (by omega) (by omega)
  simpa [impl_valueOfEnds.f, valP] using this
theorem valueOf_L (l : List S61) (o : List Int) (hg : Good l) (ho : IsOrd l.length o) (obj : Int) : L (fun k => impl_valueOf.f k l o obj) = some (valP obj l (endsP l o)) := by
  simp only [impl_valueOf.f, bind_self, L_bind, endsOf_L l o hg ho, Option.bind_some]
  exact valueOfEnds_L l hg _ (endsP_length l o) (fun e he => by have := endsP_bounds hg ho e he; omega) obj
def objB (obj : Int) : Bool := inB obj 1 8
theorem isObjective_e (n : Int) : impl_isObjective.f n = some (objB n) := by
  simp only [impl_isObjective.f, within_e, Option.bind_some, objB]
theorem objB_iff {n : Int} : objB n = true ↔ n = 1 ∨ n = 2 ∨ n = 3 ∨ n = 4 ∨ n = 5 ∨ n = 6 ∨ n = 7 ∨ n = 8 := by
  rw [objB, inB_iff]
  omega
theorem l2Objective_e (n : Int) : spec_l2Objective.f n = some (objB n) := by
  simp only [spec_l2Objective.f, l1In_e, Option.bind_some, objB]
theorem l2Cost_e (v : Int) (j : S61) (e obj : Int) (first : Bool) (hj : JobOk j) (he0 : 0 ≤ e) (he1 : e ≤ 2000) (ho : objB obj = true) (h1 : obj ≠ 1) (h4 : obj ≠ 4) : ∃ c, spec_l2Cost.f j.f0 j.f1 j.f2 j.f3 e obj = some c ∧ v + c = addF v j e obj first := by
  have a2 := hj.d0
  have a3 := hj.d1
  have m1 := mul_bd hj.w0 hj.w1 he0 he1
  have m2 := mul_bd hj.w0 hj.w1 (show 0 ≤ max (e - j.f3) 0 by omega) (by omega)
  have em : max (e - j.f3) 0 = max 0 (e - j.f3) := by omega
  simp only [spec_l2Cost.f, l1Most_e, Option.bind_some, wrap_id (show -9223372036854775808 ≤ e - j.f3 by omega) (show e - j.f3 ≤ 9223372036854775807 by omega), wrap_id (show -9223372036854775808 ≤ j.f1 * e by omega) (by omega), wrap_id (show -9223372036854775808 ≤ j.f1 * max (e - j.f3) 0 by omega) (by omega)]
  rcases objB_iff.1 ho with rfl | rfl | rfl | rfl | rfl | rfl | rfl | rfl
  · exact absurd rfl h1
  · exact ⟨_, rfl, rfl⟩
  · exact ⟨_, rfl, rfl⟩
  · exact absurd rfl h4
  · exact ⟨_, rfl, by rw [em]; rfl⟩
  · exact ⟨_, rfl, by rw [em]; rfl⟩
  · by_cases h : e - j.f3 ≤ 0
    · exact ⟨0, by simp; omega, by simp [addF, h]⟩
    · exact ⟨1, by simp; omega, by simp [addF, h]⟩
  · by_cases h : e - j.f3 ≤ 0
    · exact ⟨0, by simp; omega, by simp [addF, h]⟩
    · exact ⟨j.f1, by simp; omega, by simp [addF, h]⟩
theorem l2Of_l (obj : Int) (hobj : objB obj = true) (r : List S61) (hr : ∀ j ∈ r, JobOk j) : ∀ (pre : List S61) (pe es : List Int) (v : Int), (pre ++ r).length < 4611686018427387904 → pe.length = pre.length → es.length = r.length → (∀ e ∈ es, 0 ≤ e ∧ e ≤ 2000) → -(100000 * (1000 - r.length : Int)) ≤ v → v ≤ 100000 * (1000 - r.length : Int) → r.length ≤ 100 → (pre.length = 0 → v = 0) →
    L (fun k => spec_l2Of.l0 k (pre ++ r) (pe ++ es) obj v (pre.length : Int)) = some (valF obj v (decide (pre.length = 0)) r es) := by
  induction r with
  | nil =>
    intro pre pe es v hb hpe hes _ _ _ _ _
    rw [L_shift]
    simp only [spec_l2Of.l0, not_lt_end, if_false, L_const, valF]
  | cons x r ih =>
    intro pre pe es v hb hpe hes he h0 h1 h2 hv
    match es, hes with
    | y :: es, hes =>
      have hl : pre.length < 4611686018427387904 := by simp at hb; omega
      have e : rd_T61 (pre ++ x :: r) (pre.length : Int) = x := getD_mid pre x r _
      have e1 : rd (pe ++ y :: es) (pre.length : Int) = y := by rw [← hpe]; exact rd_mid pe y es
      have e2 : ((pre.length : Int) < ((pe ++ y :: es).length : Int)) = True := by rw [← hpe]; exact lt_mid pe y es
      have hx := hr x List.mem_cons_self
      have hy := he y List.mem_cons_self
      simp only [List.length_cons] at h0 h1 h2 hes
      have hbd := addF_bd v x y obj (decide (pre.length = 0)) hx hy.1 hy.2 (B := 100000 * (1000 - (r.length + 1 : Nat) : Int)) (by omega) (by omega) (by omega)
      have a2 := hx.d0
      have a3 := hx.d1
      have hstep : L (fun k => spec_l2Of.l0 k (pre ++ x :: r) (pe ++ y :: es) obj v (pre.length : Int)) = L (fun k => spec_l2Of.l0 k (pre ++ x :: r) (pe ++ y :: es) obj (addF v x y obj (decide (pre.length = 0))) ((pre ++ [x]).length : Int)) := by
        rw [L_shift]
        simp only [spec_l2Of.l0, lt_mid, le_nat, if_true, e, e1, e2, wrap_mid pre x hl]
        by_cases h4 : obj = 4
        · subst h4
          simp only [spec_l2Greatest.f, Option.bind_some, wrap_id (show -9223372036854775808 ≤ y - x.f3 by omega) (show y - x.f3 ≤ 9223372036854775807 by omega)]
          by_cases hp : pre.length = 0
          · simp [hp, addF]
          · have hp2 : ¬ pre = [] := fun h => hp (by rw [h]; rfl)
            by_cases hc : y - x.f3 > v
            · have : max v (y - x.f3) = y - x.f3 := by omega
              simp [hp2, addF, hc, this]
            · have : max v (y - x.f3) = v := by omega
              simp [hp2, addF, hc, this]
        · by_cases h1' : obj = 1
          · subst h1'
            simp only [spec_l2Greatest.f, Option.bind_some]
            by_cases hp : pre.length = 0
            · have : max v y = y := by have := hv hp; omega
              simp [hp, addF, this]
            · have hp2 : ¬ pre = [] := fun h => hp (by rw [h]; rfl)
              by_cases hc : y > v
              · have : max v y = y := by omega
                simp [hp2, addF, hc, this]
              · have : max v y = v := by omega
                simp [hp2, addF, hc, this]
          · obtain ⟨c, hc, hv2⟩ := l2Cost_e v x y obj (decide (pre.length = 0)) hx hy.1 hy.2 hobj h1' h4
            have hg : spec_l2Greatest.f obj = some false := by simp [spec_l2Greatest.f, h1', h4]
            simp only [hg, Option.bind_some, hc, hv2, wrap_id (show -9223372036854775808 ≤ addF v x y obj (decide (pre.length = 0)) by omega) (show addF v x y obj (decide (pre.length = 0)) ≤ 9223372036854775807 by omega)]
            simp
      rw [hstep, app_cons pre x r, app_cons pe y es, ih (fun j hj => hr j (List.mem_cons_of_mem _ hj)) (pre ++ [x]) (pe ++ [y]) es _ (by simpa using hb) (by simp [hpe]) (by omega) (fun e he' => he e (List.mem_cons_of_mem _ he')) (by omega) (by omega) (by omega) (by simp), valF]
      simp
theorem l2Of_L (l : List S61) (hg : Good l) (es : List Int) (hes : es.length = l.length) (he : ∀ e ∈ es, 0 ≤ e ∧ e ≤ 2000) (obj : Int) (hobj : objB obj = true) : L (fun k => spec_l2Of.f k l es obj) = some (valP obj l es) := by
  have h8 := hg.1
  have := l2Of_l obj hobj l hg.2 [] [] es 0 (by simp; omega) rfl hes he (by omega) (by omega) (by omega) (fun _ => rfl)
  simpa [spec_l2Of.f, valP] using this
theorem l2Value_L (l : List S61) (o : List Int) (hg : Good l) (ho : IsOrd l.length o) (obj : Int) (hobj : objB obj = true) : L (fun k => spec_l2Value.f k l o obj) = some (valP obj l (endsP l o)) := by
  simp only [spec_l2Value.f, bind_self, L_bind, l2Ends_L l o hg ho, Option.bind_some]
  exact l2Of_L l hg _ (endsP_length l o) (fun e he => by have := endsP_bounds hg ho e he; omega) obj hobj
/-- The rule difference of two jobs. -/
def gapJ (obj : Int) (a b : S61) : Int := if obj = 1 then a.f2 - b.f2 else if obj = 2 then a.f0 - b.f0 else if obj = 3 then a.f0 * b.f1 - b.f0 * a.f1 else a.f3 - b.f3
/-- The rule difference by the jobs' numbers. -/
def gapI (l : List S61) (obj x y : Int) : Int := gapJ obj (jobAt l x) (jobAt l y)
theorem copyInts_e (l : List Int) (h : l.length ≤ 1048576) : impl_copyInts.f l = some l := by
  simp only [impl_copyInts.f, Option.bind_some, List.length_nil, List.nil_append]
  rw [if_pos (by omega)]
theorem l1Own_e (l : List Int) (h : l.length ≤ 1048576) : spec_l1Own.f l = some l := by
  simp only [spec_l1Own.f, Option.bind_some, List.length_nil, List.nil_append]
  rw [if_pos (by omega)]
/-- Sooner: by date, then by number. -/
def dueQ (l : List S61) (a b : Int) : Bool := decide ((jobAt l a).f3 < (jobAt l b).f3) || (decide ((jobAt l a).f3 = (jobAt l b).f3) && decide (a < b))
theorem numsTo_asc (n : Nat) : (numsTo n).Pairwise (· < ·) := by
  rw [numsTo, List.pairwise_map]
  exact List.pairwise_lt_range.imp (fun h => by omega)
theorem ruled_l (n : Nat) (hn : n ≤ 1000) : ∀ (d : Nat) (i : Nat), i + d = n → L (fun k => impl_numbersTo.l0 k (n : Int) (numsTo i) (i : Int)) = some (numsTo n)
  | 0, i, hd => by
    rw [L_shift]
    have : i = n := by omega
    subst this
    simp only [impl_numbersTo.l0, Int.lt_irrefl, if_false, L_const]
  | d + 1, i, hd => by
    rw [L_shift]
    have ih := ruled_l n hn d (i + 1) (by omega)
    rw [numsTo_succ] at ih
    simp only [impl_numbersTo.l0, if_pos (show (i : Int) < (n : Int) by omega), if_pos (show (numsTo i).length < 17592186044416 by rw [numsTo_length]; omega), wrap_id (show -9223372036854775808 ≤ (i : Int) + 1 by omega) (show (i : Int) + 1 ≤ 9223372036854775807 by omega)]
    exact ih
/-- All orders of a list: by the first, in the list's order. -/
def permsN : Nat → List Int → List (List Int)
  | 0, _ => [[]]
  | n + 1, s => s.flatMap (fun y => (permsN n (s.filter (· ≠ y))).map (y :: ·))
/-- Each of a list's orders leads to the next one. -/
def RunL (N : List Int → List Int → Prop) : List (List Int) → Prop
  | [] => True
  | [_] => True
  | a :: b :: r => N a b ∧ RunL N (b :: r)
theorem RunL_app {N : List Int → List Int → Prop} {a b : List Int} : ∀ {p : List (List Int)} {q : List (List Int)}, RunL N (p ++ [a]) → RunL N (b :: q) → N a b → RunL N (p ++ a :: b :: q)
  | [], q, _, h2, h3 => ⟨h3, h2⟩
  | [x], q, h1, h2, h3 => ⟨h1.1, h3, h2⟩
  | x :: y :: p, q, h1, h2, h3 => ⟨h1.1, RunL_app (p := y :: p) h1.2 h2 h3⟩
/-- A run from one order to another one. -/
def RunFT (N : List Int → List Int → Prop) (os : List (List Int)) (a b : List Int) : Prop := RunL N os ∧ (∃ r, os = a :: r) ∧ (∃ p, os = p ++ [b])
theorem RunFT_app {N : List Int → List Int → Prop} {p q : List (List Int)} {a b c d : List Int} (h1 : RunFT N p a b) (h2 : RunFT N q c d) (h : N b c) : RunFT N (p ++ q) a d := by
  obtain ⟨r1, ⟨p1, e1⟩, ⟨p2, e2⟩⟩ := h1
  obtain ⟨r2, ⟨q1, f1⟩, ⟨q2, f2⟩⟩ := h2
  refine ⟨?_, ⟨p1 ++ q, by rw [e1]; rfl⟩, ⟨p ++ q2, by rw [f2, List.append_assoc]⟩⟩
  rw [e2, f1, List.append_assoc]
  rw [e2] at r1
  rw [f1] at r2
  exact RunL_app r1 r2 h
theorem filter_ne_mid {P Q : List Int} {y : Int} (h : (P ++ y :: Q).Pairwise (· < ·)) : (P ++ y :: Q).filter (· ≠ y) = P ++ Q := by
  rw [List.pairwise_append] at h
  obtain ⟨_, h2, h3⟩ := h
  rw [List.pairwise_cons] at h2
  rw [List.filter_append, List.filter_cons_of_neg (by simp), List.filter_eq_self.2, List.filter_eq_self.2]
  · intro a ha
    have := h2.1 a ha
    simp; omega
  · intro a ha
    have := h3 a ha y (by simp)
    simp; omega
theorem pairwise_mid {P Q : List Int} {y : Int} (h : (P ++ y :: Q).Pairwise (· < ·)) : (P ++ Q).Pairwise (· < ·) :=
  h.sublist (List.Sublist.append_left (List.sublist_cons_self y Q) P)
theorem perms_run {N : List Int → List Int → Prop} (hN : ∀ (A P Q : List Int) (y z : Int), (P ++ y :: z :: Q).Pairwise (· < ·) → N (A ++ y :: (Q.reverse ++ z :: P.reverse)) (A ++ z :: (P ++ y :: Q))) :
    ∀ (n : Nat) (A s : List Int), s.length = n → s.Pairwise (· < ·) → RunFT N ((permsN n s).map (A ++ ·)) (A ++ s) (A ++ s.reverse)
  | 0, A, s, hl, _ => by
    cases List.eq_nil_of_length_eq_zero hl
    exact ⟨trivial, ⟨[], by simp [permsN]⟩, ⟨[], by simp [permsN]⟩⟩
  | n + 1, A, s, hl, hs => by
    have key : ∀ (Q P : List Int) (y : Int), s = P ++ y :: Q → RunFT N (((y :: Q).flatMap (fun y => (permsN n (s.filter (· ≠ y))).map (y :: ·))).map (A ++ ·)) (A ++ y :: (P ++ Q)) (A ++ s.reverse) := by
      intro Q
      induction Q with
      | nil =>
        intro P y e
        subst e
        have h1 := perms_run hN n (A ++ [y]) (P ++ []) (by simp at hl ⊢; omega) (pairwise_mid hs)
        rw [List.flatMap_cons, List.flatMap_nil, List.append_nil, filter_ne_mid hs, List.map_map]
        have e2 : ((fun x => A ++ x) ∘ fun x => y :: x) = fun x => A ++ [y] ++ x := by
          funext x
          simp
        rw [e2]
        simpa using h1
      | cons z Q ih =>
        intro P y e
        have h2 := ih (P ++ [y]) z (by rw [e]; simp)
        have hs2 := hs
        rw [e] at hs2
        have h1 := perms_run hN n (A ++ [y]) (P ++ z :: Q) (by rw [e] at hl; simp at hl ⊢; omega) (pairwise_mid hs2)
        have e2 : ((fun x => A ++ x) ∘ fun x => y :: x) = fun x => A ++ [y] ++ x := by
          funext x
          simp
        have e3 : s.filter (· ≠ y) = P ++ z :: Q := by rw [e]; exact filter_ne_mid hs2
        rw [List.flatMap_cons, List.map_append, List.map_map, e2, e3]
        refine RunFT_app (b := A ++ y :: (Q.reverse ++ z :: P.reverse)) (c := A ++ z :: (P ++ y :: Q)) ?_ ?_ (hN A P Q y z hs2)
        · simpa using h1
        · simpa using h2
    cases s with
    | nil => simp at hl
    | cons y Q => exact key Q [] y rfl
theorem toJobSS_l (r : List (List S63)) : ∀ pre : List (List S63), (pre ++ r).length < 4611686018427387904 → (∀ x ∈ r, x.length ≤ 1048576) → L (fun k => laws_toJobSS.l0 k (pre ++ r) (pre.map (List.map toJobP) ++ List.replicate r.length []) (pre.length : Int)) = some ((pre ++ r).map (List.map toJobP)) := by
  induction r with
  | nil =>
    intro pre hb hr
    rw [L_shift]
    simp only [laws_toJobSS.l0, not_lt_end, if_false, L_const, List.length_nil, List.replicate_zero]
    simp
  | cons x r ih =>
    intro pre hb hr
    rw [L_shift]
    have hl : pre.length < 4611686018427387904 := by simp at hb; omega
    have e : rd_L9 (pre ++ x :: r) (pre.length : Int) = x := getD_mid pre x r _
    have e2 : ((pre.length : Int) < ((pre.map (List.map toJobP) ++ ([] : List S61) :: List.replicate r.length []).length : Int)) = True := by
      simp only [List.length_append, List.length_cons, List.length_map]
      exact eq_true (by omega)
    simp only [laws_toJobSS.l0, lt_mid, le_nat, if_true, rep_succ, e, e2, wrap_mid pre x hl, L_bind, L_const, toJobS_L x (hr x List.mem_cons_self), Option.bind_some, set_mid (pre.map (List.map toJobP)) _ _ _ pre (by simp)]
    have := ih (pre ++ [x]) (by simpa using hb) (fun y hy => hr y (List.mem_cons_of_mem _ hy))
    simpa using this
theorem toJobSS_L (l : List (List S63)) (h : l.length ≤ 1048576) (hr : ∀ x ∈ l, x.length ≤ 1048576) : L (fun k => laws_toJobSS.f k l) = some (l.map (List.map toJobP)) := by
  simp only [laws_toJobSS.f, le_nat, if_true, Int.toNat_natCast, if_pos (show l.length ≤ 11728124029610 by omega)]
  exact toJobSS_l l [] (by simp; omega) hr
theorem szJobS_ev (l : List S63) (v : Int) (h : l.length ≤ 9223372036854775807) (h0 : 0 ≤ v) (h1 : v ≤ 1048576) : laws_szJobS.f l v = some (if (l.length : Int) ≤ v then v - (l.length : Int) else -1) := by
  unfold laws_szJobS.f
  rw [wrap_id (show -9223372036854775808 ≤ v - (l.length : Int) by omega) (by omega)]
  by_cases h2 : (l.length : Int) ≤ v
  · rw [if_neg (by omega), if_pos h2]
  · rw [if_pos (by omega), if_neg h2]
theorem szJobSS_l (r : List (List S63)) : ∀ (pre : List (List S63)) (v : Int), (pre ++ r).length < 4611686018427387904 → 0 ≤ v → v ≤ 1048576 → (∀ x ∈ r, x.length ≤ 9223372036854775807) →
    ∃ t, L (fun k => laws_szJobSS.l0 k (pre ++ r) v (pre.length : Int)) = some t ∧ (t < 0 ∨ (0 ≤ t ∧ t ≤ v ∧ ∀ x ∈ r, x.length ≤ 1048576)) := by
  induction r with
  | nil =>
    intro pre v hb h0 h1 hr
    rw [L_shift]
    simp only [laws_szJobSS.l0, not_lt_end, if_false, L_const]
    exact ⟨v, rfl, .inr ⟨h0, Int.le_refl _, by simp⟩⟩
  | cons x r ih =>
    intro pre v hb h0 h1 hr
    rw [L_shift]
    have hl : pre.length < 4611686018427387904 := by simp at hb; omega
    have e : rd_L9 (pre ++ x :: r) (pre.length : Int) = x := getD_mid pre x r _
    simp only [laws_szJobSS.l0, lt_mid, le_nat, if_true, e, wrap_mid pre x hl, szJobS_ev x v (hr x List.mem_cons_self) h0 h1, Option.bind_some, L_ite, L_const]
    by_cases h2 : (x.length : Int) ≤ v
    · rw [if_pos h2, if_neg (by omega), app_cons pre x r]
      obtain ⟨t, ht, hd⟩ := ih (pre ++ [x]) (v - (x.length : Int)) (by simpa using hb) (by omega) (by omega) (fun y hy => hr y (List.mem_cons_of_mem _ hy))
      refine ⟨t, ht, hd.imp id (fun hd => ⟨hd.1, by omega, ?_⟩)⟩
      intro y hy
      rcases List.mem_cons.1 hy with rfl | hy
      · omega
      · exact hd.2.2 y hy
    · rw [if_neg h2, if_pos (by omega)]
      exact ⟨-1, rfl, .inl (by omega)⟩
theorem szJobSS_L (l : List (List S63)) (v : Int) (h0 : 0 ≤ v) (h1 : v ≤ 1048576) (hl : l.length ≤ 9223372036854775807) (hr : ∀ x ∈ l, x.length ≤ 9223372036854775807) :
    ∃ t, L (fun k => laws_szJobSS.f k l v) = some t ∧ (t < 0 ∨ (0 ≤ t ∧ t ≤ v ∧ l.length ≤ 1048576 ∧ ∀ x ∈ l, x.length ≤ 1048576)) := by
  simp only [laws_szJobSS.f]
  rw [wrap_id (show -9223372036854775808 ≤ v - (l.length : Int) by omega) (by omega)]
  by_cases h : v - (l.length : Int) < 0
  · simp only [if_pos h, L_const]
    exact ⟨-1, rfl, .inl (by omega)⟩
  · simp only [if_neg h]
    obtain ⟨t, ht, hd⟩ := szJobSS_l l [] (v - (l.length : Int)) (by simp; omega) (by omega) (by omega) hr
    exact ⟨t, ht, hd.imp id (fun hd => ⟨hd.1, by omega, by omega, hd.2.2⟩)⟩
theorem eqJobSS_l (r : List (List S61)) : ∀ pre : List (List S61), (pre ++ r).length < 4611686018427387904 → (∀ x ∈ r, x.length ≤ 1048576) → L (fun k => laws_eqJobSS.l0 k (pre ++ r) (pre ++ r) (pre.length : Int)) = some true := by
  induction r with
  | nil =>
    intro pre hb hr
    rw [L_shift]
    simp only [laws_eqJobSS.l0, not_lt_end, if_false, L_const]
  | cons x r ih =>
    intro pre hb hr
    rw [L_shift]
    have hl : pre.length < 4611686018427387904 := by simp at hb; omega
    have e : rd_L4 (pre ++ x :: r) (pre.length : Int) = x := getD_mid pre x r _
    simp only [laws_eqJobSS.l0, lt_mid, le_nat, if_true, e, wrap_mid pre x hl, L_bind, L_const, eqJobS_L x (hr x List.mem_cons_self), Option.bind_some]
    rw [app_cons pre x r]
    exact ih (pre ++ [x]) (by simpa using hb) (fun y hy => hr y (List.mem_cons_of_mem _ hy))
theorem eqJobSS_L (l : List (List S61)) (h : l.length ≤ 1048576) (hr : ∀ x ∈ l, x.length ≤ 1048576) : L (fun k => laws_eqJobSS.f k l l) = some true := by
  simp only [laws_eqJobSS.f, if_true]
  exact eqJobSS_l l [] (by simp; omega) hr
theorem rd_far (pre : List Int) (x : Int) (mid : List Int) (y : Int) (post : List Int) (n : Int) (h : n = pre.length + 1 + mid.length) : rd (pre ++ x :: (mid ++ y :: post)) n = y := by
  have e1 : pre ++ x :: (mid ++ y :: post) = (pre ++ x :: mid) ++ y :: post := by simp
  have e2 : n = ((pre ++ x :: mid).length : Int) := by rw [h]; simp; omega
  rw [e1, e2]
  exact rd_mid _ _ _
theorem set_far (pre : List Int) (x : Int) (mid : List Int) (y : Int) (post : List Int) (n : Int) (h : n = pre.length + 1 + mid.length) : ((pre ++ x :: (mid ++ y :: post)).set (pre.length : Int).toNat y).set n.toNat x = pre ++ y :: (mid ++ x :: post) := by
  rw [set_mid pre x y _ pre rfl]
  have e1 : pre ++ y :: (mid ++ y :: post) = (pre ++ y :: mid) ++ y :: post := by simp
  have e2 : n = ((pre ++ y :: mid).length : Int) := by rw [h]; simp; omega
  rw [e1, e2, set_mid (pre ++ y :: mid) y x post (pre ++ y :: mid) rfl]
  simp
theorem rd_app (A D : List Int) (j : Nat) (h1 : A.length ≤ j) (h2 : j < (A ++ D).length) : ∃ h : j - A.length < D.length, rd (A ++ D) (j : Int) = D[j - A.length] := by
  rw [List.length_append] at h2
  refine ⟨by omega, ?_⟩
  show (A ++ D).getD (j : Int).toNat 0 = _
  rw [Int.toNat_natCast, List.getD_eq_getElem?_getD, List.getElem?_append_right h1, List.getElem?_eq_getElem (by omega)]
  rfl
theorem rd_desc (A D : List Int) (hD : D.Pairwise (· > ·)) (j : Nat) (h1 : A.length ≤ j) (h2 : j + 1 < (A ++ D).length) : rd (A ++ D) (j : Int) > rd (A ++ D) ((j : Int) + 1) := by
  obtain ⟨a1, e1⟩ := rd_app A D j h1 (by omega)
  obtain ⟨a2, e2⟩ := rd_app A D (j + 1) (by omega) h2
  have e3 : ((j + 1 : Nat) : Int) = (j : Int) + 1 := by omega
  rw [e3] at e2
  rw [e1, e2]
  exact (List.pairwise_iff_getElem.1 hD) _ _ a1 a2 (by omega)
theorem next_scan (o : List Int) (hl : o.length ≤ 1048576) (i : Nat) : ∀ d : Nat, i + d < o.length → (∀ j : Nat, i ≤ j → j < i + d → rd o (j : Int) > rd o ((j : Int) + 1)) → L (fun k => impl_nextOrder.l0 k o (((i + d : Nat) : Int) - 1)) = L (fun k => impl_nextOrder.l0 k o ((i : Int) - 1))
  | 0, _, _ => rfl
  | d + 1, h, hj => by
    have e0 : (((i + (d + 1) : Nat) : Int) - 1) = ((i + d : Nat) : Int) := by omega
    have h1 := hj (i + d) (by omega) (by omega)
    rw [e0, L_shift]
    simp only [impl_nextOrder.l0, wrap_id (show -9223372036854775808 ≤ ((i + d : Nat) : Int) + 1 by omega) (show ((i + d : Nat) : Int) + 1 ≤ 9223372036854775807 by omega), wrap_id (show -9223372036854775808 ≤ ((i + d : Nat) : Int) - 1 by omega) (show ((i + d : Nat) : Int) - 1 ≤ 9223372036854775807 by omega)]
    simp only [if_pos (show ((i + d : Nat) : Int) ≥ 0 by omega), if_pos (show (0 : Int) ≤ ((i + d : Nat) : Int) by omega), if_pos (show ((i + d : Nat) : Int) < (o.length : Int) by omega), if_pos (show (0 : Int) ≤ ((i + d : Nat) : Int) + 1 by omega), if_pos (show ((i + d : Nat) : Int) + 1 < (o.length : Int) by omega), if_pos h1]
    exact next_scan o hl i d (by omega) (fun j a b => hj j a (by omega))
theorem next_scan1 (o : List Int) (hl : o.length ≤ 1048576) (p : Nat) (hp : p < o.length) (i : Nat) : ∀ d : Nat, i + d ≤ o.length → (∀ j : Nat, i ≤ j → j < i + d → rd o (j : Int) < rd o (p : Int)) → L (fun k => impl_nextOrder.l1 k o (p : Int) (((i + d : Nat) : Int) - 1)) = L (fun k => impl_nextOrder.l1 k o (p : Int) ((i : Int) - 1))
  | 0, _, _ => rfl
  | d + 1, h, hj => by
    have e0 : (((i + (d + 1) : Nat) : Int) - 1) = ((i + d : Nat) : Int) := by omega
    have h1 := hj (i + d) (by omega) (by omega)
    rw [e0, L_shift]
    simp only [impl_nextOrder.l1, wrap_id (show -9223372036854775808 ≤ ((i + d : Nat) : Int) - 1 by omega) (show ((i + d : Nat) : Int) - 1 ≤ 9223372036854775807 by omega)]
    simp only [if_pos (show (0 : Int) ≤ ((i + d : Nat) : Int) by omega), if_pos (show ((i + d : Nat) : Int) < (o.length : Int) by omega), if_pos (show (0 : Int) ≤ (p : Int) by omega), if_pos (show (p : Int) < (o.length : Int) by omega), if_pos h1]
    exact next_scan1 o hl p hp i d (by omega) (fun j a b => hj j a (by omega))
theorem next_rev : ∀ (n : Nat) (A M B : List Int), M.length ≤ n → (A ++ (M ++ B)).length ≤ 1048576 → L (fun k => impl_nextOrder.l2 k (A ++ (M ++ B)) (A.length : Int) ((A.length : Int) + M.length - 1)) = some (true, A ++ (M.reverse ++ B))
  | n, A, [], B, h, hl => by
    rw [L_shift]
    simp only [impl_nextOrder.l2, List.length_nil, if_neg (show ¬ ((A.length : Int) < (A.length : Int) + ((0 : Nat) : Int) - 1) by omega), L_const, List.reverse_nil]
  | 0, A, x :: M, B, h, hl => by simp at h
  | n + 1, A, x :: M, B, h, hl => by
    rcases List.eq_nil_or_concat M with rfl | ⟨M, y, rfl⟩
    · rw [L_shift]
      have e : ¬ ((A.length : Int) < (A.length : Int) + (([x] : List Int).length : Int) - 1) := by simp
      simp only [impl_nextOrder.l2, if_neg e, L_const, List.reverse_singleton]
    · have hlen : (A ++ (x :: (M.concat y) ++ B)).length = A.length + 1 + M.length + 1 + B.length := by simp; omega
      have e0 : A ++ (x :: (M.concat y) ++ B) = A ++ x :: (M ++ y :: B) := by simp
      have e1 : (A.length : Int) + ((x :: M.concat y).length : Int) - 1 = (A.length : Int) + 1 + M.length := by simp; omega
      have hlen2 : (A ++ x :: (M ++ y :: B)).length = A.length + 1 + M.length + 1 + B.length := by rw [← e0]; exact hlen
      have ih := next_rev n (A ++ [y]) M (x :: B) (by simp at h; omega) (by simp at hlen2 hl ⊢; omega)
      have e2 : ((A ++ [y]).length : Int) = (A.length : Int) + 1 := by simp
      rw [e2] at ih
      have e3 : (A ++ [y]) ++ (M ++ x :: B) = A ++ y :: (M ++ x :: B) := by simp
      rw [e3] at ih
      rw [e0, e1, L_shift]
      rw [hlen] at hl
      simp only [impl_nextOrder.l2, rd_far A x M y B _ rfl, rd_mid, set_far A x M y B _ rfl, wrap_id (show -9223372036854775808 ≤ (A.length : Int) + 1 + M.length - 1 by omega) (show (A.length : Int) + 1 + M.length - 1 ≤ 9223372036854775807 by omega), wrap_id (show -9223372036854775808 ≤ (A.length : Int) + 1 by omega) (show (A.length : Int) + 1 ≤ 9223372036854775807 by omega)]
      simp only [if_pos (show (A.length : Int) < (A.length : Int) + 1 + M.length by omega), if_pos (show (0 : Int) ≤ (A.length : Int) + 1 + M.length by omega), if_pos (show (A.length : Int) + 1 + M.length < ((A ++ x :: (M ++ y :: B)).length : Int) by omega), if_pos (show (0 : Int) ≤ (A.length : Int) by omega), if_pos (show (A.length : Int) < ((A ++ x :: (M ++ y :: B)).length : Int) by omega)]
      rw [ih]
      simp
theorem next_step (A P Q : List Int) (y z : Int) (hs : (P ++ y :: z :: Q).Pairwise (· < ·)) (hl : (A ++ y :: (Q.reverse ++ z :: P.reverse)).length ≤ 1048576) : L (fun k => impl_nextOrder.f k (A ++ y :: (Q.reverse ++ z :: P.reverse))) = some (true, A ++ z :: (P ++ y :: Q)) := by
  rw [List.pairwise_append, List.pairwise_cons, List.pairwise_cons] at hs
  obtain ⟨hP, ⟨hy, hz, hQ⟩, hPy⟩ := hs
  have hD : (Q.reverse ++ z :: P.reverse).Pairwise (· > ·) := by
    have e : Q.reverse ++ z :: P.reverse = (P ++ z :: Q).reverse := by simp
    rw [e, List.pairwise_reverse, List.pairwise_append, List.pairwise_cons]
    exact ⟨hP, ⟨hz, hQ⟩, fun a ha b hb => hPy a ha b (List.mem_cons_of_mem _ hb)⟩
  have hlen : (A ++ y :: (Q.reverse ++ z :: P.reverse)).length = A.length + 1 + Q.length + 1 + P.length := by simp; omega
  generalize ho : A ++ y :: (Q.reverse ++ z :: P.reverse) = o at *
  have ho1 : o = (A ++ [y]) ++ (Q.reverse ++ z :: P.reverse) := by rw [← ho]; simp
  have ho2 : o = (A ++ y :: (Q.reverse ++ [z])) ++ P.reverse := by rw [← ho]; simp
  have hry : rd o (A.length : Int) = y := by rw [← ho]; exact rd_mid _ _ _
  have hrz : rd o ((A.length : Int) + 1 + (Q.reverse.length : Int)) = z := by rw [← ho]; exact rd_far A y Q.reverse z P.reverse _ rfl
  have e0 : (o.length : Int) - 2 = ((A.length + 1 + (Q.length + P.length) : Nat) : Int) - 1 := by omega
  simp only [impl_nextOrder.f, wrap_id (show -9223372036854775808 ≤ (o.length : Int) - 2 by omega) (show (o.length : Int) - 2 ≤ 9223372036854775807 by omega)]
  rw [e0, next_scan o hl (A.length + 1) (Q.length + P.length) (by omega) (fun j h1 h2 => by
    have := rd_desc (A ++ [y]) _ hD j (by simp; omega) (by rw [← ho1]; omega)
    rwa [← ho1] at this)]
  have e1 : (((A.length + 1 : Nat) : Int) - 1) = (A.length : Int) := by omega
  rw [e1, L_shift]
  have hfirst : ¬ (rd o (A.length : Int) > rd o ((A.length : Int) + 1)) := by
    obtain ⟨a1, a2⟩ := rd_app (A ++ [y]) (Q.reverse ++ z :: P.reverse) (A.length + 1) (by simp) (by rw [← ho1]; omega)
    rw [← ho1] at a2
    have e3 : ((A.length + 1 : Nat) : Int) = (A.length : Int) + 1 := by omega
    rw [e3] at a2
    rw [hry, a2]
    have h5 : A.length + 1 - (A ++ [y]).length = 0 := by simp
    simp only [h5]
    have : ∀ (l : List Int) (h : 0 < (l ++ z :: P.reverse).length), (∀ q ∈ l, y < q) → y < (l ++ z :: P.reverse)[0] := by
      intro l h hq
      cases l with
      | nil => exact hy z (by simp)
      | cons q l => exact hq q (by simp)
    have := this Q.reverse (by simp; omega) (fun q hq => hy q (by simp at hq; simp [hq]))
    omega
  simp only [impl_nextOrder.l0, wrap_id (show -9223372036854775808 ≤ (A.length : Int) + 1 by omega) (show (A.length : Int) + 1 ≤ 9223372036854775807 by omega)]
  simp only [if_pos (show (A.length : Int) ≥ 0 by omega), if_pos (show (0 : Int) ≤ (A.length : Int) by omega), if_pos (show (A.length : Int) < (o.length : Int) by omega), if_pos (show (0 : Int) ≤ (A.length : Int) + 1 by omega), if_pos (show (A.length : Int) + 1 < (o.length : Int) by omega), if_neg hfirst]
  rw [L_shift]
  have e4 : (o.length : Int) - 1 = ((A.length + 1 + Q.length + 1 + P.length : Nat) : Int) - 1 := by omega
  simp only [impl_nextOrder.j1, if_neg (show ¬ (A.length : Int) < 0 by omega), wrap_id (show -9223372036854775808 ≤ (o.length : Int) - 1 by omega) (show (o.length : Int) - 1 ≤ 9223372036854775807 by omega)]
  rw [e4, next_scan1 o hl A.length (by omega) (A.length + 1 + Q.length + 1) P.length (by omega) (fun j h1 h2 => by
    obtain ⟨a1, a2⟩ := rd_app (A ++ y :: (Q.reverse ++ [z])) P.reverse j (by simp; omega) (by rw [← ho2]; omega)
    rw [← ho2] at a2
    rw [a2, hry]
    have hm : P.reverse[j - (A ++ y :: (Q.reverse ++ [z])).length] ∈ P := List.mem_reverse.1 (List.getElem_mem a1)
    exact hPy _ hm y List.mem_cons_self)]
  have e5 : (((A.length + 1 + Q.length + 1 : Nat) : Int) - 1) = (A.length : Int) + 1 + (Q.reverse.length : Int) := by rw [List.length_reverse]; omega
  have e6 : (Q.reverse.length : Int) = (Q.length : Int) := by simp
  rw [e5, L_shift]
  have hyz := hy z List.mem_cons_self
  simp only [impl_nextOrder.l1, hrz, hry, wrap_id (show -9223372036854775808 ≤ (A.length : Int) + 1 by omega) (show (A.length : Int) + 1 ≤ 9223372036854775807 by omega)]
  simp only [if_pos (show (0 : Int) ≤ (A.length : Int) + 1 + (Q.reverse.length : Int) by omega), if_pos (show (A.length : Int) + 1 + (Q.reverse.length : Int) < (o.length : Int) by omega), if_pos (show (0 : Int) ≤ (A.length : Int) by omega), if_pos (show (A.length : Int) < (o.length : Int) by omega), if_neg (show ¬ z < y by omega), wrap_id (show -9223372036854775808 ≤ (o.length : Int) - 1 by omega) (show (o.length : Int) - 1 ≤ 9223372036854775807 by omega)]
  have hset := set_far A y Q.reverse z P.reverse ((A.length : Int) + 1 + (Q.reverse.length : Int)) rfl
  rw [ho] at hset
  rw [hset]
  have e7 : A ++ z :: (Q.reverse ++ y :: P.reverse) = (A ++ [z]) ++ ((Q.reverse ++ y :: P.reverse) ++ []) := by simp
  have e8 : (A.length : Int) + 1 = ((A ++ [z]).length : Int) := by simp
  have e9 : (o.length : Int) - 1 = ((A ++ [z]).length : Int) + (Q.reverse ++ y :: P.reverse).length - 1 := by simp; omega
  rw [e7, e8, e9, next_rev _ _ _ _ (Nat.le_refl _) (by rw [← e7]; simp; omega)]
  simp
theorem next_last (s : List Int) (hs : s.Pairwise (· < ·)) (hl : s.length ≤ 1048576) : L (fun k => impl_nextOrder.f k s.reverse) = some (false, s.reverse) := by
  have hD : s.reverse.Pairwise (· > ·) := List.pairwise_reverse.2 hs
  have hlen : s.reverse.length = s.length := by simp
  generalize s.reverse = o at *
  have hend : ∀ x : Int, x < 0 → L (fun k => impl_nextOrder.l0 k o x) = some (false, o) := by
    intro x hx
    rw [L_shift]
    simp only [impl_nextOrder.l0, if_neg (show ¬ x ≥ 0 by omega)]
    rw [L_shift]
    simp only [impl_nextOrder.j1, if_pos hx, L_const]
  simp only [impl_nextOrder.f, wrap_id (show -9223372036854775808 ≤ (o.length : Int) - 2 by omega) (show (o.length : Int) - 2 ≤ 9223372036854775807 by omega)]
  by_cases h : o.length ≤ 1
  · exact hend _ (by omega)
  · have e0 : (o.length : Int) - 2 = ((0 + (o.length - 1) : Nat) : Int) - 1 := by omega
    rw [e0, next_scan o (by omega) 0 (o.length - 1) (by omega) (fun j h1 h2 => by
      have := rd_desc [] o hD j (by simp) (by simp; omega)
      simpa using this)]
    exact hend _ (by omega)
theorem permsN_perm : ∀ (n : Nat) (s : List Int), s.length = n → s.Nodup → ∀ q ∈ permsN n s, q.Perm s
  | 0, s, hl, _, q, hq => by
    cases List.eq_nil_of_length_eq_zero hl
    simp only [permsN, List.mem_singleton] at hq
    rw [hq]
  | n + 1, s, hl, hs, q, hq => by
    simp only [permsN, List.mem_flatMap, List.mem_map] at hq
    obtain ⟨y, hy, p, hp, rfl⟩ := hq
    have e := hs.erase_eq_filter y
    have h1 : (s.filter (· ≠ y)).length = n := by
      have h2 := List.length_erase_of_mem hy
      rw [e] at h2
      simp only [bne] at h2
      have h3 : (s.filter (fun x => !x == y)) = s.filter (· ≠ y) := by
        apply List.filter_congr
        intro a _
        by_cases h : a = y <;> simp [h]
      rw [h3] at h2
      omega
    have ih := permsN_perm n _ h1 (hs.filter _) p hp
    refine (ih.cons y).trans ?_
    have h3 : (s.filter (fun x => x != y)) = s.filter (· ≠ y) := by
      apply List.filter_congr
      intro a _
      by_cases h : a = y <;> simp [h]
    rw [← h3, ← e]
    exact (List.perm_cons_erase hy).symm
/-- One order leads to the next one. -/
def NextL (a b : List Int) : Prop := L (fun k => impl_nextOrder.f k a) = some (true, b)
theorem each_run {σ : Type} {step : Nat → List Int → σ → Option σ} {F : σ → List Int → σ} (hm : ∀ o s, Mono (fun k => step k o s)) : ∀ (r : List (List Int)) (o : List Int) (s : σ), (∀ q ∈ o :: r, ∀ s, L (fun k => step k q s) = some (F s q)) → RunL NextL (o :: r) → (∀ (p : List (List Int)) (b : List Int), o :: r = p ++ [b] → ∃ c, L (fun k => impl_nextOrder.f k b) = some (false, c)) → L (fun k => impl_eachOrder.run step k o s) = some ((o :: r).foldl F s)
  | [], o, s, h1, h2, h3 => by
    obtain ⟨c, hc⟩ := h3 [] o rfl
    rw [L_shift]
    simp only [impl_eachOrder.run, L_bind, h1 o List.mem_cons_self, hc, Option.bind_some, Bool.false_eq_true, if_false, L_const]
    rfl
  | b :: r, o, s, h1, h2, h3 => by
    have h4 := h2.1
    unfold NextL at h4
    rw [L_shift]
    simp only [impl_eachOrder.run, L_bind, h1 o List.mem_cons_self, h4, Option.bind_some, if_true]
    exact each_run hm r b _ (fun q hq => h1 q (List.mem_cons_of_mem _ hq)) h2.2 (fun p c e => h3 (o :: p) c (by rw [e]; rfl))
/-- A walk over all orders of n things, told by a fold over them. -/
theorem each_L {σ : Type} {step : Nat → List Int → σ → Option σ} {F : σ → List Int → σ} (hm : ∀ o s, Mono (fun k => step k o s)) (n : Nat) (hn : n ≤ 8) (s : σ) (h : ∀ q, IsOrd n q → ∀ s, L (fun k => step k q s) = some (F s q)) : L (fun k => impl_eachOrder.run step k (numsTo n) s) = some ((permsN n (numsTo n)).foldl F s) := by
  have hlen : ∀ (A P Q : List Int) (y z : Int), A ++ P ++ y :: z :: Q = A ++ P ++ y :: z :: Q := fun _ _ _ _ _ => rfl
  have hrun := perms_run (N := fun a b => a.length ≤ 1048576 → NextL a b) (fun A P Q y z hs hl => next_step A P Q y z hs hl) n [] (numsTo n) (numsTo_length n) (numsTo_asc n)
  have e : (permsN n (numsTo n)).map (fun x => [] ++ x) = permsN n (numsTo n) := by simp
  rw [e] at hrun
  obtain ⟨h1, ⟨r, h2⟩, ⟨p, h3⟩⟩ := hrun
  rw [List.nil_append] at h2 h3
  have hall : ∀ q ∈ permsN n (numsTo n), IsOrd n q := fun q hq => IsOrd.of_perm (permsN_perm n (numsTo n) (numsTo_length n) (numsTo_nodup n) q hq)
  rw [h2] at hall h1 h3 ⊢
  refine each_run hm r (numsTo n) s (fun q hq => h q (hall q hq)) ?_ (fun p' b hb => ?_)
  · have : ∀ os : List (List Int), (∀ q ∈ os, IsOrd n q) → RunL (fun a b => a.length ≤ 1048576 → NextL a b) os → RunL NextL os := by
      intro os
      induction os with
      | nil => exact fun _ _ => trivial
      | cons a os ih =>
        cases os with
        | nil => exact fun _ _ => trivial
        | cons b os => exact fun ha hr => ⟨hr.1 (by rw [(ha a List.mem_cons_self).1]; omega), ih (fun q hq => ha q (List.mem_cons_of_mem _ hq)) hr.2⟩
    exact this _ hall h1
  · rw [h3] at hb
    have hb2 : b = (numsTo n).reverse := by
      have := congrArg List.getLast? hb
      simpa using this.symm
    exact ⟨_, by rw [hb2]; exact next_last _ (numsTo_asc n) (by rw [numsTo_length]; omega)⟩
/-- What one order does to the best so far: the first best order, its value, and how many there are. -/
def bestS (V : List Int → Int) (s : List Int × Int × Int) (o : List Int) : List Int × Int × Int :=
  if s.2.2 = 0 ∨ V o < s.2.1 then (o, V o, 1) else if V o = s.2.1 then (s.1, s.2.1, wrap64 (s.2.2 + 1)) else s
/-- The best of all orders. -/
def bestP (l : List S61) (obj : Int) : List Int × Int × Int := (permsN l.length (numsTo l.length)).foldl (bestS (fun o => valP obj l (endsP l o))) ([], 0, 0)
def numsFrom (i d : Nat) : List Int := (List.range' i d).map (fun j : Nat => (j : Int))
theorem numsFrom_all (n : Nat) : numsFrom 0 n = numsTo n := by
  unfold numsFrom numsTo
  rw [List.range_eq_range']
theorem numsFrom_cons (i d : Nat) : numsFrom i (d + 1) = (i : Int) :: numsFrom (i + 1) d := by
  unfold numsFrom
  rw [List.range'_succ]
  rfl
theorem l2Try_leaf (l : List S61) (hg : Good l) (obj : Int) (hobj : objB obj = true) (b : List Int) (hb : IsOrd l.length b) (s : List Int × Int × Int) : L (fun k => spec_l2Try.f k l b obj s.1 s.2.1 s.2.2) = some (bestS (fun o => valP obj l (endsP l o)) s b) := by
  have h8 := hg.1
  have hb1 := hb.1
  have hj : ∀ c : Bool, L (fun k => spec_l2Try.j0 k b (valP obj l (endsP l b)) c s.1 s.2.1 s.2.2) = some (if c = true then (b, valP obj l (endsP l b), 1) else if valP obj l (endsP l b) = s.2.1 then (s.1, s.2.1, wrap64 (s.2.2 + 1)) else s) := by
    intro c
    rw [L_shift]
    simp only [spec_l2Try.j0, l1Own_e b (by omega), Option.bind_some, L_ite, L_const]
    repeat' split
    all_goals rfl
  rw [L_shift]
  simp only [spec_l2Try.f, if_pos (show (b.length : Int) = (l.length : Int) by omega), L_bind, l2Value_L l b hg hb obj hobj, Option.bind_some, L_ite, hj, bestS]
  by_cases h0 : s.2.2 = 0
  · simp [h0]
  · by_cases h1 : valP obj l (endsP l b) < s.2.1
    · simp [h0, h1]
    · simp [h0, h1]
theorem l2Try_L (l : List S61) (hg : Good l) (obj : Int) (hobj : objB obj = true) : ∀ (n : Nat) (b : List Int), b.Nodup → (∀ x ∈ b, 0 ≤ x ∧ x < (l.length : Int)) → b.length + n = l.length → ∀ s : List Int × Int × Int, L (fun k => spec_l2Try.f k l b obj s.1 s.2.1 s.2.2) = some (((permsN n ((numsTo l.length).filter (fun x => decide (x ∉ b)))).map (fun q => b ++ q)).foldl (bestS (fun o => valP obj l (endsP l o))) s)
  | 0, b, hn, hx, hl, s => by
    rw [l2Try_leaf l hg obj hobj b ⟨by omega, hx, hn⟩ s]
    simp [permsN]
  | n + 1, b, hn, hx, hl, s => by
    have h8 := hg.1
    have hloop : ∀ (d i : Nat) (s : List Int × Int × Int), i + d = l.length → L (fun k => spec_l2Try.l0 k l b obj (i : Int) s.1 s.2.1 s.2.2) = some ((((numsFrom i d).filter (fun x => decide (x ∉ b))).flatMap (fun y => (permsN n ((numsTo l.length).filter (fun x => decide (x ∉ b ++ [y])))).map (fun q => (b ++ [y]) ++ q))).foldl (bestS (fun o => valP obj l (endsP l o))) s) := by
      intro d
      induction d with
      | zero =>
        intro i s hi
        rw [L_shift]
        simp only [spec_l2Try.l0, if_neg (show ¬ ((i : Int) < (l.length : Int)) by omega), L_const]
        rfl
      | succ d ih =>
        intro i s hi
        have e : wrap64 ((i : Int) + 1) = ((i + 1 : Nat) : Int) := by
          rw [wrap_id (by omega) (by omega)]
          omega
        rw [L_shift]
        simp only [spec_l2Try.l0, if_pos (show ((i : Int) < (l.length : Int)) by omega), L_bind, l1Has_L b _ (show b.length < 4611686018427387904 by omega), Option.bind_some, e, L_ite, L_const, l1Own_e b (by omega), if_pos (show b.length + ([(i : Int)] : List Int).length < 17592186044416 by simp; omega)]
        rw [numsFrom_cons]
        by_cases hm : (i : Int) ∈ b
        · simp only [hm, decide_true, if_true]
          rw [ih (i + 1) s (by omega), List.filter_cons_of_neg (by simp [hm])]
        · rw [if_neg (by simp [hm])]
          have hrec := l2Try_L l hg obj hobj n (b ++ [(i : Int)]) (by
            rw [List.nodup_append]
            exact ⟨hn, by simp, fun a ha c hc => by
              rw [List.mem_singleton] at hc
              rintro rfl
              exact hm (hc ▸ ha)⟩) (fun x h => by
            rcases List.mem_append.1 h with h | h
            · exact hx x h
            · rw [List.mem_singleton] at h
              omega) (by simp; omega) s
          rw [hrec, Option.bind_some, ih (i + 1) _ (by omega), List.filter_cons_of_pos (by simp [hm]), List.flatMap_cons, List.foldl_append]
    rw [L_shift]
    simp only [spec_l2Try.f, if_neg (show ¬ (b.length : Int) = (l.length : Int) by omega)]
    have := hloop l.length 0 s (by omega)
    rw [numsFrom_all] at this
    refine this.trans ?_
    congr 2
    rw [permsN, List.map_flatMap]
    congr 1
    funext y
    rw [List.map_map]
    have e1 : (fun q => b ++ q) ∘ (fun q => y :: q) = fun q => (b ++ [y]) ++ q := by
      funext q
      simp
    rw [e1, List.filter_filter]
    congr 2
    apply List.filter_congr
    intro a _
    by_cases h1 : a = y
    · simp [h1]
    · simp [h1]
theorem l2All_L (l : List S61) (hg : Good l) (obj : Int) (hobj : objB obj = true) : L (fun k => spec_l2All.f k l obj) = some (bestP l obj) := by
  have h := l2Try_L l hg obj hobj l.length [] List.nodup_nil (by simp) (by simp) ([], 0, 0)
  have e : (numsTo l.length).filter (fun x => decide (x ∉ ([] : List Int))) = numsTo l.length := by simp
  rw [e] at h
  simp only [List.nil_append, List.map_id'] at h
  simp only [spec_l2All.f, L_bind, h, Option.bind_some, L_const]
  rfl
theorem l2Best_L (l : List S61) (hg : Good l) (obj : Int) (hobj : objB obj = true) : L (fun k => spec_l2Best.f k l obj) = some ((bestP l obj).1, (bestP l obj).2.1) := by
  simp only [spec_l2Best.f, L_bind, l2All_L l hg obj hobj, Option.bind_some, L_const]
theorem best_L (l : List S61) (hg : Good l) (obj : Int) : L (fun k => impl_best.f k l obj) = some (bestP l obj) := by
  have h8 := hg.1
  have hn := ruled_l l.length (by omega) l.length 0 (by omega)
  have hn2 : L (fun k => impl_numbersTo.f k (l.length : Int)) = some (numsTo l.length) := by
    simp only [impl_numbersTo.f]
    exact hn
  simp only [impl_best.f, L_bind, hn2, Option.bind_some]
  refine each_L (fun o s => ⟨⟨fun k => impl_best_1.step_mono l obj k o s⟩⟩) l.length h8 ([], 0, 0) (fun q hq s => ?_)
  have hq1 := hq.1
  simp only [impl_best_1.step, L_bind, valueOf_L l q hg hq obj, Option.bind_some, L_ite, copyInts_e q (by omega), L_const, bestS]
  repeat' split
  all_goals rfl
/-- Scenarios: one to four lists of jobs, all valid and of one length. -/
def scenR (w : List (List S61)) (r : List (List S61)) : Bool := r.all (fun x => goodB x && decide ((x.length : Int) = ((rd_L4 w 0).length : Int)))
theorem scenR_cons (w : List (List S61)) (x : List S61) (r : List (List S61)) : scenR w (x :: r) = (goodB x && decide ((x.length : Int) = ((rd_L4 w 0).length : Int)) && scenR w r) := rfl
theorem scenR_iff {w r : List (List S61)} : scenR w r = true ↔ ∀ x ∈ r, Good x ∧ x.length = (rd_L4 w 0).length := by
  simp only [scenR, List.all_eq_true, Bool.and_eq_true, decide_eq_true_eq, goodB_iff]
  constructor
  · intro h x hx
    exact ⟨(h x hx).1, by have := (h x hx).2; omega⟩
  · intro h x hx
    exact ⟨(h x hx).1, by have := (h x hx).2; omega⟩
/-- They are scenarios. -/
def scenB (w : List (List S61)) : Bool := scenR w w && inB (w.length : Int) 1 4
theorem l11Lists_l (w : List (List S61)) (hw : w.length ≤ 1048576) (hx : ∀ x ∈ w, x.length ≤ 1048576) : ∀ (r pre : List (List S61)), pre ++ r = w → L (fun k => spec_l11Lists.l0 k w (pre.length : Int)) = some (scenR w r && inB (w.length : Int) 1 4)
  | [], pre, e => by
    rw [List.append_nil] at e
    subst e
    rw [L_shift]
    simp only [spec_l11Lists.l0, if_neg (show ¬ ((pre.length : Int) < (pre.length : Int)) by omega), l1In_e, Option.bind_some, L_const]
    simp [scenR]
  | x :: r, pre, e => by
    have hl : w.length = pre.length + (r.length + 1) := by rw [← e]; simp
    have er : rd_L4 w (pre.length : Int) = x := by rw [← e]; exact getD_mid pre x r _
    have ih := l11Lists_l w hw hx r (pre ++ [x]) (by rw [← e]; simp)
    have ew : wrap64 ((pre.length : Int) + 1) = ((pre ++ [x]).length : Int) := wrap_mid pre x (by omega)
    have hgx := l2Good_L x (by have := hx x (by rw [← e]; simp); omega)
    rw [L_shift]
    simp only [spec_l11Lists.l0, if_pos (show (pre.length : Int) < (w.length : Int) by omega), if_pos (show (0 : Int) ≤ (pre.length : Int) by omega), if_pos (show (0 : Int) < (w.length : Int) by omega), er, ew, L_bind, hgx, Option.bind_some, L_ite, L_const, ih]
    rw [scenR_cons]
    cases goodB x with
    | false => simp
    | true =>
      by_cases h2 : (x.length : Int) = ((rd_L4 w 0).length : Int)
      · rw [if_pos rfl, if_pos h2, decide_eq_true h2]
        rfl
      · rw [if_pos rfl, if_neg h2, decide_eq_false h2]
        rfl
theorem l11Lists_L (w : List (List S61)) (hw : w.length ≤ 1048576) (hx : ∀ x ∈ w, x.length ≤ 1048576) : L (fun k => spec_l11Lists.f k w) = some (scenB w) := l11Lists_l w hw hx w [] rfl
theorem areScen_l (w : List (List S61)) (hw : w.length ≤ 1048576) (hx : ∀ x ∈ w, x.length ≤ 1048576) : ∀ (r pre : List (List S61)), pre ++ r = w → L (fun k => impl_AreScenarios.l0 k w w (w.length : Int) (pre.length : Int)) = some (scenR w r)
  | [], pre, e => by
    rw [List.append_nil] at e
    subst e
    rw [L_shift]
    simp only [impl_AreScenarios.l0, if_neg (show ¬ ((pre.length : Int) < (pre.length : Int)) by omega), L_const]
    simp [scenR]
  | x :: r, pre, e => by
    have hl : w.length = pre.length + (r.length + 1) := by rw [← e]; simp
    have er : rd_L4 w (pre.length : Int) = x := by rw [← e]; exact getD_mid pre x r _
    have ih := areScen_l w hw hx r (pre ++ [x]) (by rw [← e]; simp)
    have ew : wrap64 ((pre.length : Int) + 1) = ((pre ++ [x]).length : Int) := wrap_mid pre x (by omega)
    have hgx := IsJobs_L x (by have := hx x (by rw [← e]; simp); omega)
    rw [L_shift]
    simp only [impl_AreScenarios.l0, if_pos (show (pre.length : Int) < (w.length : Int) by omega), if_pos (show (0 : Int) ≤ (pre.length : Int) by omega), if_pos (show (0 : Int) < (w.length : Int) by omega), er, ew, L_bind, hgx, Option.bind_some, L_ite, L_const, ih]
    rw [scenR_cons]
    cases goodB x with
    | false => simp
    | true =>
      by_cases h2 : (x.length : Int) = ((rd_L4 w 0).length : Int)
      · rw [if_pos rfl, if_pos h2, decide_eq_true h2]
        rfl
      · rw [if_pos rfl, if_neg h2, decide_eq_false h2]
        rfl
theorem AreScenarios_L (w : List (List S61)) (hw : w.length ≤ 1048576) (hx : ∀ x ∈ w, x.length ≤ 1048576) : L (fun k => impl_AreScenarios.f k w) = some (scenB w) := by
  have h := areScen_l w hw hx w [] rfl
  simp only [List.length_nil, Int.natCast_zero] at h
  simp only [impl_AreScenarios.f, within_e, Option.bind_some, L_ite, L_const, h, scenB]
  cases inB (w.length : Int) 1 4 <;> simp
theorem l11Values_l (w : List (List S61)) (hw : w.length ≤ 1048576) (o : List Int) (obj : Int) (V : List S61 → Int) (hV : ∀ x ∈ w, L (fun k => spec_l2Value.f k x o obj) = some (V x)) : ∀ (r pre : List (List S61)) (out : List Int), pre ++ r = w → out.length = pre.length → L (fun k => spec_l11Values.l0 k w o obj out (pre.length : Int)) = some (out ++ r.map V)
  | [], pre, out, e, ho => by
    rw [List.append_nil] at e
    subst e
    rw [L_shift]
    simp only [spec_l11Values.l0, if_neg (show ¬ ((pre.length : Int) < (pre.length : Int)) by omega), L_const]
    simp
  | x :: r, pre, out, e, ho => by
    have hl : w.length = pre.length + (r.length + 1) := by rw [← e]; simp
    have er : rd_L4 w (pre.length : Int) = x := by rw [← e]; exact getD_mid pre x r _
    have ih := l11Values_l w hw o obj V hV r (pre ++ [x]) (out ++ [V x]) (by rw [← e]; simp) (by simp [ho])
    have ew : wrap64 ((pre.length : Int) + 1) = ((pre ++ [x]).length : Int) := wrap_mid pre x (by omega)
    have hgx := hV x (by rw [← e]; simp)
    rw [L_shift]
    simp only [spec_l11Values.l0, if_pos (show (pre.length : Int) < (w.length : Int) by omega), if_pos (show (0 : Int) ≤ (pre.length : Int) by omega), if_pos (show out.length < 17592186044416 by omega), er, ew, L_bind, hgx, Option.bind_some, ih]
    simp
theorem l11Values_L (w : List (List S61)) (hw : w.length ≤ 1048576) (o : List Int) (obj : Int) (V : List S61 → Int) (hV : ∀ x ∈ w, L (fun k => spec_l2Value.f k x o obj) = some (V x)) : L (fun k => spec_l11Values.f k w o obj) = some (w.map V) := l11Values_l w hw o obj V hV w [] [] rfl rfl
theorem scenVals_l (w : List (List S61)) (hw : w.length ≤ 1048576) (o : List Int) (obj : Int) (V : List S61 → Int) (hV : ∀ x ∈ w, L (fun k => impl_valueOf.f k x o obj) = some (V x)) : ∀ (r pre : List (List S61)) (out : List Int), pre ++ r = w → out.length = pre.length → L (fun k => impl_scenarioValues.l0 k o obj out w (w.length : Int) (pre.length : Int)) = some (out ++ r.map V)
  | [], pre, out, e, ho => by
    rw [List.append_nil] at e
    subst e
    rw [L_shift]
    simp only [impl_scenarioValues.l0, if_neg (show ¬ ((pre.length : Int) < (pre.length : Int)) by omega), L_const]
    simp
  | x :: r, pre, out, e, ho => by
    have hl : w.length = pre.length + (r.length + 1) := by rw [← e]; simp
    have er : rd_L4 w (pre.length : Int) = x := by rw [← e]; exact getD_mid pre x r _
    have ih := scenVals_l w hw o obj V hV r (pre ++ [x]) (out ++ [V x]) (by rw [← e]; simp) (by simp [ho])
    have ew : wrap64 ((pre.length : Int) + 1) = ((pre ++ [x]).length : Int) := wrap_mid pre x (by omega)
    have hgx := hV x (by rw [← e]; simp)
    rw [L_shift]
    simp only [impl_scenarioValues.l0, if_pos (show (pre.length : Int) < (w.length : Int) by omega), if_pos (show (0 : Int) ≤ (pre.length : Int) by omega), if_pos (show out.length < 17592186044416 by omega), er, ew, L_bind, hgx, Option.bind_some, ih]
    simp
theorem scenVals_L (w : List (List S61)) (hw : w.length ≤ 1048576) (o : List Int) (obj : Int) (V : List S61 → Int) (hV : ∀ x ∈ w, L (fun k => impl_valueOf.f k x o obj) = some (V x)) : L (fun k => impl_scenarioValues.f k w o obj) = some (w.map V) := scenVals_l w hw o obj V hV w [] [] rfl rfl
theorem l11Bests_l (w : List (List S61)) (hw : w.length ≤ 1048576) (obj : Int) (V : List S61 → List Int × Int) (hV : ∀ x ∈ w, L (fun k => spec_l2Best.f k x obj) = some (V x)) : ∀ (r pre : List (List S61)) (out : List Int), pre ++ r = w → out.length = pre.length → L (fun k => spec_l11Bests.l0 k w obj out (pre.length : Int)) = some (out ++ r.map (fun x => (V x).2))
  | [], pre, out, e, ho => by
    rw [List.append_nil] at e
    subst e
    rw [L_shift]
    simp only [spec_l11Bests.l0, if_neg (show ¬ ((pre.length : Int) < (pre.length : Int)) by omega), L_const]
    simp
  | x :: r, pre, out, e, ho => by
    have hl : w.length = pre.length + (r.length + 1) := by rw [← e]; simp
    have er : rd_L4 w (pre.length : Int) = x := by rw [← e]; exact getD_mid pre x r _
    have ih := l11Bests_l w hw obj V hV r (pre ++ [x]) (out ++ [(V x).2]) (by rw [← e]; simp) (by simp [ho])
    have ew : wrap64 ((pre.length : Int) + 1) = ((pre ++ [x]).length : Int) := wrap_mid pre x (by omega)
    have hgx := hV x (by rw [← e]; simp)
    rw [L_shift]
    simp only [spec_l11Bests.l0, if_pos (show (pre.length : Int) < (w.length : Int) by omega), if_pos (show (0 : Int) ≤ (pre.length : Int) by omega), if_pos (show out.length < 17592186044416 by omega), er, ew, L_bind, hgx, Option.bind_some, ih]
    simp
theorem l11Bests_L (w : List (List S61)) (hw : w.length ≤ 1048576) (obj : Int) (V : List S61 → List Int × Int) (hV : ∀ x ∈ w, L (fun k => spec_l2Best.f k x obj) = some (V x)) : L (fun k => spec_l11Bests.f k w obj) = some (w.map (fun x => (V x).2)) := l11Bests_l w hw obj V hV w [] [] rfl rfl
theorem bestVals_l (w : List (List S61)) (hw : w.length ≤ 1048576) (obj : Int) (V : List S61 → List Int × Int × Int) (hV : ∀ x ∈ w, L (fun k => impl_best.f k x obj) = some (V x)) : ∀ (r pre : List (List S61)) (out : List Int), pre ++ r = w → out.length = pre.length → L (fun k => impl_bestValues.l0 k obj out w (w.length : Int) (pre.length : Int)) = some (out ++ r.map (fun x => (V x).2.1))
  | [], pre, out, e, ho => by
    rw [List.append_nil] at e
    subst e
    rw [L_shift]
    simp only [impl_bestValues.l0, if_neg (show ¬ ((pre.length : Int) < (pre.length : Int)) by omega), L_const]
    simp
  | x :: r, pre, out, e, ho => by
    have hl : w.length = pre.length + (r.length + 1) := by rw [← e]; simp
    have er : rd_L4 w (pre.length : Int) = x := by rw [← e]; exact getD_mid pre x r _
    have ih := bestVals_l w hw obj V hV r (pre ++ [x]) (out ++ [(V x).2.1]) (by rw [← e]; simp) (by simp [ho])
    have ew : wrap64 ((pre.length : Int) + 1) = ((pre ++ [x]).length : Int) := wrap_mid pre x (by omega)
    have hgx := hV x (by rw [← e]; simp)
    rw [L_shift]
    simp only [impl_bestValues.l0, if_pos (show (pre.length : Int) < (w.length : Int) by omega), if_pos (show (0 : Int) ≤ (pre.length : Int) by omega), if_pos (show out.length < 17592186044416 by omega), er, ew, L_bind, hgx, Option.bind_some, ih]
    simp
theorem bestVals_L (w : List (List S61)) (hw : w.length ≤ 1048576) (obj : Int) (V : List S61 → List Int × Int × Int) (hV : ∀ x ∈ w, L (fun k => impl_best.f k x obj) = some (V x)) : L (fun k => impl_bestValues.f k w obj) = some (w.map (fun x => (V x).2.1)) := bestVals_l w hw obj V hV w [] [] rfl rfl
theorem worst_l (v b : List Int) (n : Nat) (hv : v.length = n) (hb : b.length = n) (hn : n ≤ 1048576) : ∀ (d i a : Nat), i + d = n → a < n → ∃ (R A : Int), L (fun k => spec_l11Worst.l0 k v b (a : Int) (i : Int)) = some (R, A) ∧ L (fun k => impl_greatest.l0 k b (wrap64 (rd v (a : Int) - rd b (a : Int))) (a : Int) v (v.length : Int) (i : Int)) = some (R, A)
  | 0, i, a, hi, ha => by
    refine ⟨wrap64 (rd v (a : Int) - rd b (a : Int)), (a : Int), ?_, ?_⟩
    · rw [L_shift]
      simp only [spec_l11Worst.l0, if_neg (show ¬ ((i : Int) < (v.length : Int)) by omega), if_pos (show (0 : Int) ≤ (a : Int) by omega), if_pos (show (a : Int) < (v.length : Int) by omega), if_pos (show (a : Int) < (b.length : Int) by omega), L_const]
    · rw [L_shift]
      simp only [impl_greatest.l0, if_neg (show ¬ ((i : Int) < (v.length : Int)) by omega), L_const]
  | d + 1, i, a, hi, ha => by
    have ew : wrap64 ((i : Int) + 1) = ((i + 1 : Nat) : Int) := by
      rw [wrap_id (by omega) (by omega)]
      omega
    by_cases hc : wrap64 (rd v (i : Int) - rd b (i : Int)) > wrap64 (rd v (a : Int) - rd b (a : Int))
    · obtain ⟨R, A, h1, h2⟩ := worst_l v b n hv hb hn d (i + 1) i (by omega) (by omega)
      refine ⟨R, A, ?_, ?_⟩
      · rw [L_shift]
        simp only [spec_l11Worst.l0, if_pos (show (i : Int) < (v.length : Int) by omega), if_pos (show (0 : Int) ≤ (i : Int) by omega), if_pos (show (i : Int) < (b.length : Int) by omega), if_pos (show (0 : Int) ≤ (a : Int) by omega), if_pos (show (a : Int) < (v.length : Int) by omega), if_pos (show (a : Int) < (b.length : Int) by omega), if_pos hc, ew, h1]
      · rw [L_shift]
        simp only [impl_greatest.l0, if_pos (show (i : Int) < (v.length : Int) by omega), if_pos (show (0 : Int) ≤ (i : Int) by omega), if_pos (show (i : Int) < (b.length : Int) by omega), if_pos hc, ew, h2]
    · obtain ⟨R, A, h1, h2⟩ := worst_l v b n hv hb hn d (i + 1) a (by omega) ha
      refine ⟨R, A, ?_, ?_⟩
      · rw [L_shift]
        simp only [spec_l11Worst.l0, if_pos (show (i : Int) < (v.length : Int) by omega), if_pos (show (0 : Int) ≤ (i : Int) by omega), if_pos (show (i : Int) < (b.length : Int) by omega), if_pos (show (0 : Int) ≤ (a : Int) by omega), if_pos (show (a : Int) < (v.length : Int) by omega), if_pos (show (a : Int) < (b.length : Int) by omega), if_neg hc, ew, h1]
      · rw [L_shift]
        simp only [impl_greatest.l0, if_pos (show (i : Int) < (v.length : Int) by omega), if_pos (show (0 : Int) ≤ (i : Int) by omega), if_pos (show (i : Int) < (b.length : Int) by omega), if_neg hc, ew, h2]
theorem worst_both (v b : List Int) (hb : b.length = v.length) (h0 : 0 < v.length) (hn : v.length ≤ 1048576) : ∃ (R A : Int), L (fun k => spec_l11Worst.f k v b) = some (R, A) ∧ L (fun k => impl_greatest.f k v b) = some (R, A) := by
  obtain ⟨R, A, h1, h2⟩ := worst_l v b v.length rfl hb hn (v.length - 1) 1 0 (by omega) h0
  refine ⟨R, A, h1, ?_⟩
  simp only [impl_greatest.f, if_pos (show (0 : Int) < (v.length : Int) by omega), if_pos (show (0 : Int) < (b.length : Int) by omega)]
  rw [L_shift]
  have ew : wrap64 ((0 : Int) + 1) = ((1 : Nat) : Int) := by
    rw [wrap_id (by omega) (by omega)]
    rfl
  have h3 : ¬ wrap64 (rd v 0 - rd b 0) > wrap64 (rd v 0 - rd b 0) := Int.lt_irrefl _
  simp only [impl_greatest.l0, if_pos (show (0 : Int) < (v.length : Int) by omega), if_pos (Int.le_refl 0), if_pos (show (0 : Int) < (b.length : Int) by omega), if_neg h3, ew]
  exact h2
theorem l11Fits_L (w : List (List S61)) (o : List Int) (obj : Int) (hw : w.length ≤ 1048576) (hx : ∀ x ∈ w, x.length ≤ 1048576) (ho : o.length ≤ 1048576) : L (fun k => spec_l11Fits.f k w o obj) = some (scenB w && orderB (rd_L4 w 0).length o && objB obj) := by
  simp only [spec_l11Fits.f, L_bind, l11Lists_L w hw hx, Option.bind_some, L_ite, L_const]
  cases h : scenB w with
  | false => simp
  | true =>
    have h1 := h
    simp only [scenB, Bool.and_eq_true, inB_iff] at h1
    have h0 : 0 < w.length := by have := h1.2.1; omega
    have hm : rd_L4 w 0 ∈ w := by
      show w.getD (0 : Int).toNat [] ∈ w
      rw [Int.toNat_zero, List.getD_eq_getElem?_getD, List.getElem?_eq_getElem h0]
      exact List.getElem_mem _
    have hg := ((scenR_iff.1 h1.1) _ hm).1
    have h8 := hg.1
    simp only [if_true, if_pos (show (0 : Int) < (w.length : Int) by omega), l2Order_L (rd_L4 w 0).length o (by omega) (show o.length < 4611686018427387904 by omega), Option.bind_some, l2Objective_e, L_const, decide_eq_true h8, Bool.true_and]
    cases orderB (rd_L4 w 0).length o <;> simp
theorem scenB_all {w : List (List S61)} {o : List Int} (h : scenB w = true) (ho : orderB (rd_L4 w 0).length o = true) : (1 ≤ w.length ∧ w.length ≤ 4) ∧ ∀ x ∈ w, Good x ∧ IsOrd x.length o := by
  simp only [scenB, Bool.and_eq_true, inB_iff] at h
  refine ⟨by have := h.2; omega, fun x hx => ?_⟩
  obtain ⟨h1, h2⟩ := (scenR_iff.1 h.1) x hx
  rw [h2]
  exact ⟨h1, orderB_iff.1 ho⟩
theorem areRobust_L (w : List (List S61)) (obj : Int) (hw : w.length ≤ 1048576) (hx : ∀ x ∈ w, x.length ≤ 1048576) : L (fun k => impl_areRobust.f k w obj) = some (scenB w && objB obj) := by
  simp only [impl_areRobust.f, L_bind, AreScenarios_L w hw hx, Option.bind_some, L_ite, L_const, isObjective_e, ite_and]

theorem GreatestRegret_both (w : List (List S61)) (o : List Int) (obj : Int) (hw : w.length ≤ 1048576) (hx : ∀ x ∈ w, x.length ≤ 1048576) (ho : o.length ≤ 1048576) :
    ∃ (R A : Int) (b : Bool), L (fun k => spec_GreatestRegret.f k w o obj) = some (R, A, b) ∧ L (fun k => impl_GreatestRegret.f k w o obj) = some (R, A, b) := by
  have hj : ∀ b, L (fun k => impl_GreatestRegret.j0 k w o obj b) = if b = true then some (0, 0, false) else (L (fun k => impl_scenarioValues.f k w o obj)).bind (fun v => (L (fun k => impl_bestValues.f k w obj)).bind (fun t => (L (fun k => impl_greatest.f k v t)).bind (fun g => some (g.1, g.2, true)))) := by
    intro b
    rw [L_shift]
    simp only [impl_GreatestRegret.j0, L_ite, L_const, L_bind]
  simp only [spec_GreatestRegret.f, impl_GreatestRegret.f, L_bind, L_ite, L_const, l11Fits_L w o obj hw hx ho, areRobust_L w obj hw hx, Option.bind_some, hj]
  cases hs : scenB w with
  | false => exact ⟨0, 0, false, by simp, by simp⟩
  | true =>
    have h1 := hs
    simp only [scenB, Bool.and_eq_true, inB_iff] at h1
    have h0 : (0 : Int) < (w.length : Int) := by have := h1.2.1; omega
    have hm : rd_L4 w 0 ∈ w := by
      show w.getD (0 : Int).toNat [] ∈ w
      rw [Int.toNat_zero, List.getD_eq_getElem?_getD, List.getElem?_eq_getElem (by omega)]
      exact List.getElem_mem _
    cases hobj : objB obj with
    | false => exact ⟨0, 0, false, by simp, by simp⟩
    | true =>
      simp only [Bool.true_and, Bool.and_true, if_true, if_pos h0, isOrder_L (rd_L4 w 0).length o (hx _ hm) (show o.length < 4611686018427387904 by omega), Option.bind_some]
      cases hord : orderB (rd_L4 w 0).length o with
      | false => exact ⟨0, 0, false, by simp, by simp⟩
      | true =>
        obtain ⟨hw4, hall⟩ := scenB_all hs hord
        have e1 := l11Values_L w hw o obj (fun x => valP obj x (endsP x o)) (fun x h => l2Value_L x o (hall x h).1 (hall x h).2 obj hobj)
        have e2 := scenVals_L w hw o obj (fun x => valP obj x (endsP x o)) (fun x h => valueOf_L x o (hall x h).1 (hall x h).2 obj)
        have e3 := l11Bests_L w hw obj (fun x => ((bestP x obj).1, (bestP x obj).2.1)) (fun x h => l2Best_L x (hall x h).1 obj hobj)
        have e4 := bestVals_L w hw obj (fun x => bestP x obj) (fun x h => best_L x (hall x h).1 obj)
        obtain ⟨R, A, h2, h3⟩ := worst_both (w.map (fun x => valP obj x (endsP x o))) (w.map (fun x => (bestP x obj).2.1)) (by simp) (by simp; omega) (by simp; omega)
        exact ⟨R, A, true, by simp only [if_true, e1, e3, h2, Option.bind_some], by simp only [Bool.not_true, Bool.false_eq_true, if_false, e2, e4, h3, Option.bind_some]⟩
theorem laws_FnExactGreatestRegret_j0f (x0 : List (List (S63))) (x1 : List Int) (x11 : List (List (S61))) (x12 : List Int) : L (fun k => laws_FnExactGreatestRegret.j0 k x0 x1 x11 x12 false) = L (fun k => (laws_toJobSS.f k x0).bind fun t721 => ((laws_eqJobSS.f k x11 t721).bind fun t724 => (if t724 = true then ((laws_toIntS.f k x1).bind fun t725 => ((laws_eqIntS.f k x12 t725).bind fun t728 => (if t728 = true then (some true) else (some false)))) else (some false)))) := by
  rw [L_shift]
  simp only [laws_FnExactGreatestRegret.j0, Bool.false_eq_true, if_false]
theorem FnExactGreatestRegret : laws_FnExactGreatestRegret.Pure := by
  intro w o obj h1 h1' h2 _ _
  have e1 : maxLen = 9223372036854775807 := rfl
  refine rounds_of_L ?_
  obtain ⟨t, ht, hd⟩ := szJobSS_L w 1048576 (by omega) (by omega) (by omega) (fun x hx => by have := (h1' x hx).1; omega)
  simp only [laws_FnExactGreatestRegret.f, L_ite, L_const, L_bind, ht, Option.bind_some]
  by_cases ho : o.length ≤ 1048576
  · rw [if_neg (by omega)]
    rcases hd with hd | ⟨hd0, _, hl, hr⟩
    · rw [if_pos hd]
    · have hw2 : (w.map (List.map toJobP)).length ≤ 1048576 := by simpa using hl
      have hx2 : ∀ x ∈ w.map (List.map toJobP), x.length ≤ 1048576 := by
        intro x hx
        obtain ⟨y, hy, rfl⟩ := List.mem_map.1 hx
        simpa using hr y hy
      obtain ⟨R, A, b, hs, hi⟩ := GreatestRegret_both (w.map (List.map toJobP)) o obj hw2 hx2 ho
      rw [if_neg (by omega)]
      simp only [Option.bind_some, toJobSS_L w hl hr, toIntS_L o ho, hs, hi, eqJobSS_L _ hw2 hx2, eqIntS_L o ho, laws_FnExactGreatestRegret_j0f, L_bind, L_ite, L_const, if_true, Bool.false_eq_true, if_false, bne_self_eq_false]
  · rw [if_pos (by omega)]

end Go.Proofs.Ytoagdnojoodloaa.Pure
