/- The program's LongerWithout answers what the reference's answers, for all lists of jobs, machines, pairs and orders. -/
import Derived.Test.YteifefecoaefnaaXSFnExactLongerWithout
import Derived.Test.YteifefecoaefnaaXLim
namespace Go.Proofs.Yteifefecoaefnaa.Pure
open Go.RowKit Go.Proofs.YteifefecoaefnaaW.PrintWords Go.Proofs.YteifefecoaefnaaW.PrintLast Go.Proofs.YteifefecoaefnaaW.PrintMore Go.Proofs.Yteifefecoaefnaa.X Go.Proofs.Yteifefecoaefnaa.XRow Go.Proofs.Yteifefecoaefnaa.XLim
set_option linter.unusedVariables false
set_option linter.unusedSimpArgs false
instance : ∀ a0, Mono (fun k => impl_IsJobs.f k a0) := fun a0 => ⟨⟨impl_IsJobs.mono a0⟩⟩
instance : ∀ a0, Mono (fun k => impl_IsPlain.f k a0) := fun a0 => ⟨⟨impl_IsPlain.mono a0⟩⟩
instance : ∀ a0 a1, Mono (fun k => impl_IsPrecedence.f k a0 a1) := fun a0 a1 => ⟨⟨impl_IsPrecedence.mono a0 a1⟩⟩
instance : ∀ a0 a1 a2 a3, Mono (fun k => impl_LongerWithout.f k a0 a1 a2 a3) := fun a0 a1 a2 a3 => ⟨⟨impl_LongerWithout.mono a0 a1 a2 a3⟩⟩
instance : ∀ a0 a1, Mono (fun k => impl_areDifferent.f k a0 a1) := fun a0 a1 => ⟨⟨impl_areDifferent.mono a0 a1⟩⟩
instance : ∀ a0 a1, Mono (fun k => impl_closure.f k a0 a1) := fun a0 a1 => ⟨⟨impl_closure.mono a0 a1⟩⟩
instance : ∀ a0 a1, Mono (fun k => impl_has.f k a0 a1) := fun a0 a1 => ⟨⟨impl_has.mono a0 a1⟩⟩
instance : ∀ a0 a1 a2 a3, Mono (fun k => impl_isListed.f k a0 a1 a2 a3) := fun a0 a1 a2 a3 => ⟨⟨impl_isListed.mono a0 a1 a2 a3⟩⟩
instance : ∀ a0 a1, Mono (fun k => impl_isOrder.f k a0 a1) := fun a0 a1 => ⟨⟨impl_isOrder.mono a0 a1⟩⟩
instance : ∀ a0 a1 a2, Mono (fun k => impl_isParallel.f k a0 a1 a2) := fun a0 a1 a2 => ⟨⟨impl_isParallel.mono a0 a1 a2⟩⟩
instance : ∀ a0, Mono (fun k => impl_isPlain.f k a0) := fun a0 => ⟨⟨impl_isPlain.mono a0⟩⟩
instance : ∀ a0 a1 a2 a3, Mono (fun k => impl_listPlan.f k a0 a1 a2 a3) := fun a0 a1 a2 a3 => ⟨⟨impl_listPlan.mono a0 a1 a2 a3⟩⟩
instance : ∀ a0 a1 a2 a3 a4 a5, Mono (fun k => impl_listPlan_1.f k a0 a1 a2 a3 a4 a5) := fun a0 a1 a2 a3 a4 a5 => ⟨⟨impl_listPlan_1.mono a0 a1 a2 a3 a4 a5⟩⟩
instance : ∀ a0 a1, Mono (fun k => impl_planLength.f k a0 a1) := fun a0 a1 => ⟨⟨impl_planLength.mono a0 a1⟩⟩
instance : ∀ a0 a1 a2 a3, Mono (fun k => laws_FnExactLongerWithout.f k a0 a1 a2 a3) := fun a0 a1 a2 a3 => ⟨⟨laws_FnExactLongerWithout.mono a0 a1 a2 a3⟩⟩
instance : ∀ a0 a1, Mono (fun k => laws_eqIntA2S.f k a0 a1) := fun a0 a1 => ⟨⟨laws_eqIntA2S.mono a0 a1⟩⟩
instance : ∀ a0 a1, Mono (fun k => laws_eqIntS.f k a0 a1) := fun a0 a1 => ⟨⟨laws_eqIntS.mono a0 a1⟩⟩
instance : ∀ a0 a1, Mono (fun k => laws_eqJobS.f k a0 a1) := fun a0 a1 => ⟨⟨laws_eqJobS.mono a0 a1⟩⟩
instance : ∀ a0, Mono (fun k => laws_toIntA2S.f k a0) := fun a0 => ⟨⟨laws_toIntA2S.mono a0⟩⟩
instance : ∀ a0, Mono (fun k => laws_toIntS.f k a0) := fun a0 => ⟨⟨laws_toIntS.mono a0⟩⟩
instance : ∀ a0, Mono (fun k => laws_toJobS.f k a0) := fun a0 => ⟨⟨laws_toJobS.mono a0⟩⟩
instance : ∀ a0 a1 a2 a3, Mono (fun k => spec_LongerWithout.f k a0 a1 a2 a3) := fun a0 a1 a2 a3 => ⟨⟨spec_LongerWithout.mono a0 a1 a2 a3⟩⟩
instance : ∀ a0 a1, Mono (fun k => spec_l1Has.f k a0 a1) := fun a0 a1 => ⟨⟨spec_l1Has.mono a0 a1⟩⟩
instance : ∀ a0, Mono (fun k => spec_l2Good.f k a0) := fun a0 => ⟨⟨spec_l2Good.mono a0⟩⟩
instance : ∀ a0 a1, Mono (fun k => spec_l2Order.f k a0 a1) := fun a0 a1 => ⟨⟨spec_l2Order.mono a0 a1⟩⟩
instance : ∀ a0, Mono (fun k => spec_l3Plain.f k a0) := fun a0 => ⟨⟨spec_l3Plain.mono a0⟩⟩
instance : ∀ a0 a1, Mono (fun k => spec_l4Good.f k a0 a1) := fun a0 a1 => ⟨⟨spec_l4Good.mono a0 a1⟩⟩
instance : ∀ a0 a1, Mono (fun k => spec_l4Pairs.f k a0 a1) := fun a0 a1 => ⟨⟨spec_l4Pairs.mono a0 a1⟩⟩
instance : ∀ a0 a1, Mono (fun k => spec_l4Table.f k a0 a1) := fun a0 a1 => ⟨⟨spec_l4Table.mono a0 a1⟩⟩
instance : ∀ a0 a1 a2, Mono (fun k => spec_l7Good.f k a0 a1 a2) := fun a0 a1 a2 => ⟨⟨spec_l7Good.mono a0 a1 a2⟩⟩
instance : ∀ a0 a1, Mono (fun k => spec_l7Length.f k a0 a1) := fun a0 a1 => ⟨⟨spec_l7Length.mono a0 a1⟩⟩
instance : ∀ a0 a1 a2 a3, Mono (fun k => spec_l7List.f k a0 a1 a2 a3) := fun a0 a1 a2 a3 => ⟨⟨spec_l7List.mono a0 a1 a2 a3⟩⟩
instance : ∀ a0 a1 a2 a3, Mono (fun k => spec_l7Next.f k a0 a1 a2 a3) := fun a0 a1 a2 a3 => ⟨⟨spec_l7Next.mono a0 a1 a2 a3⟩⟩
instance : ∀ a0 a1 a2 a3, Mono (fun k => spec_l7Ordered.f k a0 a1 a2 a3) := fun a0 a1 a2 a3 => ⟨⟨spec_l7Ordered.mono a0 a1 a2 a3⟩⟩
instance : ∀ a0 a1, Mono (fun k => spec_l7Soon.f k a0 a1) := fun a0 a1 => ⟨⟨spec_l7Soon.mono a0 a1⟩⟩
theorem lt_mid {α : Type} (pre : List α) (x : α) (r : List α) : ((pre.length : Int) < ((pre ++ x :: r).length : Int)) = True := by
  simp only [List.length_append, List.length_cons]
  exact eq_true (by omega)
theorem not_lt_end {α : Type} (pre : List α) : ((pre.length : Int) < ((pre ++ []).length : Int)) = False := by
  simp
theorem le_nat (n : Nat) : (0 ≤ (n : Int)) = True := eq_true (by omega)
theorem getD_mid {α : Type} (pre : List α) (x : α) (r : List α) (d : α) : (pre ++ x :: r).getD (pre.length : Int).toNat d = x := by
  simp [List.getD_eq_getElem?_getD]
theorem rd_mid (pre : List Int) (x : Int) (r : List Int) : rd (pre ++ x :: r) (pre.length : Int) = x := getD_mid pre x r 0
theorem wrap_mid {α : Type} (pre : List α) (x : α) (h : pre.length < 4611686018427387904) : wrap64 ((pre.length : Int) + 1) = ((pre ++ [x]).length : Int) := by
  rw [wrap_id (by omega) (by omega)]
  simp
theorem set_mid {α β : Type} (a : List α) (y v : α) (b : List α) (pre : List β) (h : pre.length = a.length) : (a ++ y :: b).set (pre.length : Int).toNat v = a ++ v :: b := by
  rw [Int.toNat_natCast, h, List.set_append_right _ _ (Nat.le_refl _)]
  simp
theorem rep_succ {α : Type} (x : α) (r : List α) {β : Type} (z : β) : List.replicate (x :: r).length z = z :: List.replicate r.length z := rfl
theorem app_cons {α : Type} (pre : List α) (x : α) (r : List α) : pre ++ x :: r = (pre ++ [x]) ++ r := by simp
theorem getD_set (out : List Int) (i j : Nat) (v : Int) : (out.set i v).getD j 0 = if i = j ∧ j < out.length then v else out.getD j 0 := by
  simp only [List.getD_eq_getElem?_getD, List.getElem?_set]
  by_cases h : i = j
  · subst h
    by_cases h2 : i < out.length
    · simp [h2]
    · simp [h2]
  · simp [h]
theorem toIntS_l (r : List Int) : ∀ pre : List Int, (pre ++ r).length < 4611686018427387904 → L (fun k => laws_toIntS.l0 k (pre ++ r) (pre ++ List.replicate r.length 0) (pre.length : Int)) = some (pre ++ r) := by
  induction r with
  | nil =>
    intro pre hb
    rw [L_shift]
    simp only [laws_toIntS.l0, not_lt_end, if_false, L_const, List.length_nil, List.replicate_zero]
  | cons x r ih =>
    intro pre hb
    rw [L_shift]
    have hl : pre.length < 4611686018427387904 := by simp at hb; omega
    simp only [laws_toIntS.l0, lt_mid, le_nat, if_true, rep_succ, rd_mid, wrap_mid pre x hl, set_mid pre _ x _ pre rfl]
    rw [app_cons pre x r, app_cons pre x (List.replicate _ _)]
    exact ih (pre ++ [x]) (by simpa using hb)
theorem toIntS_L (l : List Int) (h : l.length ≤ 1048576) : L (fun k => laws_toIntS.f k l) = some l := by
  simp only [laws_toIntS.f, le_nat, if_true, Int.toNat_natCast, if_pos (show l.length ≤ 35184372088832 by omega)]
  exact toIntS_l l [] (by simp; omega)
theorem eqIntS_l (r : List Int) : ∀ pre : List Int, (pre ++ r).length < 4611686018427387904 → L (fun k => laws_eqIntS.l0 k (pre ++ r) (pre ++ r) (pre.length : Int)) = some true := by
  induction r with
  | nil =>
    intro pre hb
    rw [L_shift]
    simp only [laws_eqIntS.l0, not_lt_end, if_false, L_const]
  | cons x r ih =>
    intro pre hb
    rw [L_shift]
    have hl : pre.length < 4611686018427387904 := by simp at hb; omega
    simp only [laws_eqIntS.l0, lt_mid, le_nat, if_true, rd_mid, wrap_mid pre x hl]
    rw [app_cons pre x r]
    exact ih (pre ++ [x]) (by simpa using hb)
theorem eqIntS_L (l : List Int) (h : l.length ≤ 1048576) : L (fun k => laws_eqIntS.f k l l) = some true := by
  simp only [laws_eqIntS.f, if_true]
  exact eqIntS_l l [] (by simp; omega)
def toJobP (x : S48) : S46 := ⟨x.f0, x.f1, x.f2, x.f3⟩
theorem toJobS_l (r : List S48) : ∀ pre : List S48, (pre ++ r).length < 4611686018427387904 → L (fun k => laws_toJobS.l0 k (pre ++ r) (pre.map toJobP ++ List.replicate r.length z46) (pre.length : Int)) = some ((pre ++ r).map toJobP) := by
  induction r with
  | nil =>
    intro pre hb
    rw [L_shift]
    simp only [laws_toJobS.l0, not_lt_end, if_false, L_const, List.length_nil, List.replicate_zero]
    simp
  | cons x r ih =>
    intro pre hb
    rw [L_shift]
    have hl : pre.length < 4611686018427387904 := by simp at hb; omega
    have e : rd_T48 (pre ++ x :: r) (pre.length : Int) = x := getD_mid pre x r _
    have e2 : ((pre.length : Int) < ((pre.map toJobP ++ z46 :: List.replicate r.length z46).length : Int)) = True := by
      simp only [List.length_append, List.length_cons, List.length_map]
      exact eq_true (by omega)
    simp only [laws_toJobS.l0, laws_toJob.f, lt_mid, le_nat, if_true, rep_succ, e, e2, wrap_mid pre x hl, Option.bind_some, set_mid (pre.map toJobP) _ _ _ pre (by simp)]
    have := ih (pre ++ [x]) (by simpa using hb)
    simpa [toJobP] using this
theorem toJobS_L (l : List S48) (h : l.length ≤ 1048576) : L (fun k => laws_toJobS.f k l) = some (l.map toJobP) := by
  simp only [laws_toJobS.f, le_nat, if_true, Int.toNat_natCast, if_pos (show l.length ≤ 8796093022208 by omega)]
  exact toJobS_l l [] (by simp; omega)
theorem eqJobS_l (r : List S46) : ∀ pre : List S46, (pre ++ r).length < 4611686018427387904 → L (fun k => laws_eqJobS.l0 k (pre ++ r) (pre ++ r) (pre.length : Int)) = some true := by
  induction r with
  | nil =>
    intro pre hb
    rw [L_shift]
    simp only [laws_eqJobS.l0, not_lt_end, if_false, L_const]
  | cons x r ih =>
    intro pre hb
    rw [L_shift]
    have hl : pre.length < 4611686018427387904 := by simp at hb; omega
    simp only [laws_eqJobS.l0, laws_eqJob.f, lt_mid, le_nat, if_true, wrap_mid pre x hl, Option.bind_some]
    rw [app_cons pre x r]
    exact ih (pre ++ [x]) (by simpa using hb)
theorem eqJobS_L (l : List S46) (h : l.length ≤ 1048576) : L (fun k => laws_eqJobS.f k l l) = some true := by
  simp only [laws_eqJobS.f, if_true]
  exact eqJobS_l l [] (by simp; omega)
theorem szJobS_e (l : List S48) (h : l.length ≤ 9223372036854775807) : laws_szJobS.f l 1048576 = if l.length ≤ 1048576 then some (1048576 - (l.length : Int)) else some (-1) := by
  unfold laws_szJobS.f
  have e : wrap64 (1048576 - (l.length : Int)) = 1048576 - (l.length : Int) := wrap_id (by omega) (by omega)
  rw [e]
  by_cases h2 : l.length ≤ 1048576
  · rw [if_neg (by omega), if_pos h2]
  · rw [if_pos (by omega), if_neg h2]
theorem ite_and (b c : Bool) : (if b = true then some c else some false) = some (b && c) := by cases b <;> rfl
theorem ite_not_and (b c : Bool) : (if b = true then some false else some c) = some (!b && c) := by cases b <;> rfl
theorem bind_self {α : Type} (o : Option α) : (o.bind fun t => some t) = o := by cases o <;> rfl
def inB (a lo hi : Int) : Bool := decide (lo ≤ a) && decide (a ≤ hi)
theorem inB_iff {a lo hi : Int} : inB a lo hi = true ↔ lo ≤ a ∧ a ≤ hi := by simp [inB]
theorem within_e (a lo hi : Int) : impl_within.f a lo hi = some (inB a lo hi) := by
  unfold impl_within.f inB
  by_cases h : lo ≤ a <;> simp [h]
theorem l1In_e (a lo hi : Int) : spec_l1In.f a lo hi = some (inB a lo hi) := by
  unfold spec_l1In.f inB
  by_cases h : lo ≤ a <;> simp [h]
theorem mx_e (a b : Int) : mx a b = max a b := by
  unfold mx
  omega
theorem l1Most_e (a b : Int) : spec_l1Most.f a b = some (max a b) := by
  unfold spec_l1Most.f
  by_cases h : a > b
  · rw [if_pos h]
    congr 1
    omega
  · rw [if_neg h]
    congr 1
    omega
theorem l1Has_l (x : Int) (r : List Int) : ∀ pre : List Int, (pre ++ r).length < 4611686018427387904 → L (fun k => spec_l1Has.l0 k (pre ++ r) x (pre.length : Int)) = some (decide (x ∈ r)) := by
  induction r with
  | nil =>
    intro pre hb
    rw [L_shift]
    simp only [spec_l1Has.l0, not_lt_end, if_false, L_const]
    simp
  | cons y r ih =>
    intro pre hb
    rw [L_shift]
    have hl : pre.length < 4611686018427387904 := by simp at hb; omega
    simp only [spec_l1Has.l0, lt_mid, le_nat, if_true, rd_mid, wrap_mid pre y hl, L_ite, L_const]
    rw [app_cons pre y r, ih (pre ++ [y]) (by simpa using hb)]
    by_cases h : y = x
    · subst h
      simp
    · rw [if_neg h]
      have : ¬ x = y := fun e => h e.symm
      simp [this]
theorem l1Has_L (l : List Int) (x : Int) (h : l.length < 4611686018427387904) : L (fun k => spec_l1Has.f k l x) = some (decide (x ∈ l)) := l1Has_l x l [] (by simpa using h)
theorem has_l (x : Int) (r : List Int) : ∀ pre : List Int, (pre ++ r).length < 4611686018427387904 → L (fun k => impl_has.l0 k x (pre ++ r) ((pre ++ r).length : Int) (pre.length : Int)) = some (decide (x ∈ r)) := by
  induction r with
  | nil =>
    intro pre hb
    rw [L_shift]
    simp only [impl_has.l0, not_lt_end, if_false, L_const]
    simp
  | cons y r ih =>
    intro pre hb
    rw [L_shift]
    have hl : pre.length < 4611686018427387904 := by simp at hb; omega
    simp only [impl_has.l0, lt_mid, le_nat, if_true, rd_mid, wrap_mid pre y hl, L_ite, L_const]
    rw [app_cons pre y r, ih (pre ++ [y]) (by simpa using hb)]
    by_cases h : y = x
    · subst h
      simp
    · rw [if_neg h]
      have : ¬ x = y := fun e => h e.symm
      simp [this]
theorem has_L (l : List Int) (x : Int) (h : l.length < 4611686018427387904) : L (fun k => impl_has.f k l x) = some (decide (x ∈ l)) := has_l x l [] (by simpa using h)
theorem perm_of : ∀ (a b : List Int), a.Nodup → (∀ x ∈ a, x ∈ b) → b.length ≤ a.length → a.Perm b
  | [], b, _, _, hl => by
    have : b = [] := List.length_eq_zero_iff.1 (by simpa using hl)
    rw [this]
  | x :: a, b, hn, hs, hl => by
    have hx : x ∈ b := hs x List.mem_cons_self
    have hn' := List.nodup_cons.1 hn
    have hp := List.perm_cons_erase hx
    have h1 : (b.erase x).length ≤ a.length := by
      have := List.length_erase_of_mem hx
      simp at hl
      omega
    have h2 : ∀ y ∈ a, y ∈ b.erase x := fun y hy => (List.mem_erase_of_ne (by rintro rfl; exact hn'.1 hy)).2 (hs y (List.mem_cons_of_mem _ hy))
    exact ((perm_of a (b.erase x) hn'.2 h2 h1).cons x).trans hp.symm
def numsTo (n : Nat) : List Int := (List.range n).map (fun i : Nat => (i : Int))
theorem numsTo_length (n : Nat) : (numsTo n).length = n := by simp [numsTo]
theorem mem_numsTo {n : Nat} {x : Int} : x ∈ numsTo n ↔ 0 ≤ x ∧ x < n := by
  simp only [numsTo, List.mem_map, List.mem_range]
  constructor
  · rintro ⟨i, hi, rfl⟩
    omega
  · intro h
    exact ⟨x.toNat, by omega, by omega⟩
theorem numsTo_nodup (n : Nat) : (numsTo n).Nodup := by
  unfold numsTo
  exact List.Pairwise.map _ (fun a b h => by omega) List.nodup_range
/-- Different numbers of n things, none of them in pre. -/
def diffB (n : Int) : List Int → List Int → Bool
  | _, [] => true
  | pre, x :: r => inB x 0 (n - 1) && (!decide (x ∈ pre) && diffB n (pre ++ [x]) r)
theorem diffB_iff (n : Int) : ∀ (r pre : List Int), diffB n pre r = true ↔ (∀ x ∈ r, 0 ≤ x ∧ x < n) ∧ r.Nodup ∧ ∀ x ∈ r, x ∉ pre
  | [], pre => by simp [diffB]
  | x :: r, pre => by
    rw [diffB, Bool.and_eq_true, Bool.and_eq_true, inB_iff, diffB_iff n r (pre ++ [x])]
    simp only [Bool.not_eq_true', decide_eq_false_iff_not, List.mem_cons, List.nodup_cons, List.mem_append, List.not_mem_nil, or_false, not_or]
    constructor
    · rintro ⟨h1, h2, h3, h4, h5⟩
      refine ⟨?_, ⟨fun hx => (h5 x hx).2 rfl, h4⟩, ?_⟩
      · rintro y (rfl | hy)
        · omega
        · exact h3 y hy
      · rintro y (rfl | hy)
        · exact h2
        · exact (h5 y hy).1
    · rintro ⟨h1, ⟨h2, h3⟩, h4⟩
      exact ⟨⟨(h1 x (.inl rfl)).1, by have := (h1 x (.inl rfl)).2; omega⟩, h4 x (.inl rfl), fun y hy => h1 y (.inr hy), h3, fun y hy => ⟨h4 y (.inr hy), fun e => h2 (e ▸ hy)⟩⟩
/-- An order of n jobs. -/
def orderB (n : Nat) (l : List Int) : Bool := decide ((l.length : Int) = n) && diffB n [] l
def IsOrd (n : Nat) (l : List Int) : Prop := l.length = n ∧ (∀ x ∈ l, 0 ≤ x ∧ x < n) ∧ l.Nodup
theorem orderB_iff {n : Nat} {l : List Int} : orderB n l = true ↔ IsOrd n l := by
  simp only [orderB, Bool.and_eq_true, decide_eq_true_eq, diffB_iff, IsOrd]
  constructor
  · rintro ⟨h, h1, h2, _⟩
    exact ⟨by omega, h1, h2⟩
  · rintro ⟨h, h1, h2⟩
    exact ⟨by omega, h1, h2, by simp⟩
theorem IsOrd.perm {n : Nat} {l : List Int} (h : IsOrd n l) : l.Perm (numsTo n) := perm_of l _ h.2.2 (fun x hx => mem_numsTo.2 (h.2.1 x hx)) (by rw [numsTo_length, h.1]; exact Nat.le_refl _)
theorem IsOrd.of_perm {n : Nat} {l : List Int} (h : l.Perm (numsTo n)) : IsOrd n l := ⟨by rw [h.length_eq, numsTo_length], fun x hx => mem_numsTo.1 (h.mem_iff.1 hx), h.nodup_iff.2 (numsTo_nodup n)⟩
theorem IsOrd.mem {n : Nat} {l : List Int} (h : IsOrd n l) {x : Int} : x ∈ l ↔ 0 ≤ x ∧ x < n := by rw [h.perm.mem_iff, mem_numsTo]
theorem isOrd_all {n : Nat} {l : List Int} (hl : l.length = n) (h : ∀ j : Nat, j < n → (j : Int) ∈ l) : IsOrd n l :=
  IsOrd.of_perm (perm_of _ l (numsTo_nodup n) (fun x hx => by
    obtain ⟨h0, h1⟩ := mem_numsTo.1 hx
    have := h x.toNat (by omega)
    rwa [Int.toNat_of_nonneg h0] at this) (by rw [numsTo_length, hl]; exact Nat.le_refl _)).symm
theorem l2Order_l (n : Nat) (l : List Int) (hn : n ≤ 1048576) (hl : l.length < 4611686018427387904) : ∀ (d i : Nat), i + d = n → L (fun k => spec_l2Order.l0 k (n : Int) l (i : Int)) = some (decide (∀ j : Nat, j < n → i ≤ j → (j : Int) ∈ l))
  | 0, i, hi => by
    rw [L_shift]
    simp only [spec_l2Order.l0, if_neg (show ¬ ((i : Int) < (n : Int)) by omega), L_const]
    congr 1
    symm
    rw [decide_eq_true_eq]
    intro j h1 h2
    omega
  | d + 1, i, hi => by
    rw [L_shift]
    have e : wrap64 ((i : Int) + 1) = ((i + 1 : Nat) : Int) := by
      rw [wrap_id (by omega) (by omega)]
      omega
    simp only [spec_l2Order.l0, if_pos (show ((i : Int) < (n : Int)) by omega), L_bind, l1Has_L l _ hl, Option.bind_some, e, L_ite, L_const]
    rw [l2Order_l n l hn hl d (i + 1) (by omega), ite_and]
    congr 1
    rw [← Bool.decide_and]
    apply decide_eq_decide.2
    constructor
    · rintro ⟨h1, h2⟩ j h4 h3
      rcases Nat.eq_or_lt_of_le h3 with rfl | h5
      · exact h1
      · exact h2 j h4 h5
    · intro h
      exact ⟨h i (by omega) (Nat.le_refl _), fun j h4 h3 => h j h4 (by omega)⟩
theorem l2Order_L (n : Nat) (l : List Int) (hn : n ≤ 1048576) (hl : l.length < 4611686018427387904) : L (fun k => spec_l2Order.f k (n : Int) l) = some (decide (n ≤ 8) && orderB n l) := by
  have hj : ∀ b : Bool, L (fun k => spec_l2Order.j0 k (n : Int) l b) = some (!b && decide (∀ j : Nat, j < n → (j : Int) ∈ l)) := by
    intro b
    rw [L_shift]
    simp only [spec_l2Order.j0, L_ite, L_const]
    rw [show ((0 : Int)) = ((0 : Nat) : Int) from rfl]
    rw [l2Order_l n l hn hl n 0 (by omega), ite_not_and]
    simp
  simp only [spec_l2Order.f, l1In_e, Option.bind_some, L_ite, hj]
  by_cases h8 : n ≤ 8
  · rw [if_pos (by rw [inB_iff]; omega)]
    simp only [h8, decide_true, Bool.true_and]
    congr 1
    by_cases hl2 : l.length = n
    · have e : ((l.length : Int) != (n : Int)) = false := by rw [hl2]; simp
      rw [e]
      simp only [Bool.not_false, Bool.true_and]
      by_cases h : ∀ j : Nat, j < n → (j : Int) ∈ l
      · rw [decide_eq_true h, orderB_iff.2 (isOrd_all hl2 h)]
      · rw [decide_eq_false h]
        symm
        rw [Bool.eq_false_iff]
        intro ho
        exact h (fun j hj => (orderB_iff.1 ho).mem.2 (by omega))
    · have e : ((l.length : Int) != (n : Int)) = true := by simp; omega
      rw [e]
      simp only [Bool.not_true, Bool.false_and]
      symm
      rw [Bool.eq_false_iff]
      intro ho
      exact hl2 (orderB_iff.1 ho).1
  · rw [if_neg (by rw [inB_iff]; omega)]
    simp [h8]
theorem isNumber_e (a n : Int) (h0 : -9223372036854775807 ≤ n) (h1 : n ≤ 9223372036854775807) : impl_isNumber.f a n = some (inB a 0 (n - 1)) := by
  simp only [impl_isNumber.f, within_e, Option.bind_some]
  rw [wrap_id (by omega) (by omega)]
theorem take_mid {α : Type} (pre : List α) (r : List α) : (pre ++ r).take (pre.length : Int).toNat = pre := by simp
theorem areDifferent_l (n : Nat) (hn : n ≤ 1048576) (r : List Int) : ∀ pre : List Int, (pre ++ r).length < 4611686018427387904 → L (fun k => impl_areDifferent.l0 k (n : Int) (pre ++ r) (pre ++ r) ((pre ++ r).length : Int) (pre.length : Int)) = some (diffB n pre r) := by
  induction r with
  | nil =>
    intro pre hb
    rw [L_shift]
    simp only [impl_areDifferent.l0, not_lt_end, if_false, L_const]
    simp [diffB]
  | cons x r ih =>
    intro pre hb
    rw [L_shift]
    have hl : pre.length < 4611686018427387904 := by simp at hb; omega
    have e : ((pre.length : Int) ≤ ((pre ++ x :: r).length : Int)) = True := eq_true (by simp; omega)
    simp only [impl_areDifferent.l0, lt_mid, le_nat, if_true, rd_mid, wrap_mid pre x hl, isNumber_e x (n : Int) (by omega) (by omega), Option.bind_some, e, take_mid, L_ite, L_bind, has_L pre x hl, L_const]
    rw [app_cons pre x r, ih (pre ++ [x]) (by simpa using hb), ite_not_and, ite_and]
    rfl
theorem areDifferent_L (n : Nat) (l : List Int) (hn : n ≤ 1048576) (hl : l.length < 4611686018427387904) : L (fun k => impl_areDifferent.f k (n : Int) l) = some (diffB n [] l) := areDifferent_l n hn l [] (by simpa using hl)
theorem isOrder_L (n : Nat) (l : List Int) (hn : n ≤ 1048576) (hl : l.length < 4611686018427387904) : L (fun k => impl_isOrder.f k (n : Int) l) = some (orderB n l) := by
  simp only [impl_isOrder.f, bind_self, L_ite, areDifferent_L n l hn hl, L_const, orderB]
  by_cases h : (l.length : Int) = n <;> simp [h]
def jobB (j : S46) : Bool := inB j.f0 1 50 && (inB j.f1 0 50 && (inB j.f2 0 500 && inB j.f3 0 500))
def goodB (l : List S46) : Bool := l.all jobB && decide ((l.length : Int) ≤ 8)
structure JobOk (j : S46) : Prop where
  t0 : 1 ≤ j.f0
  t1 : j.f0 ≤ 50
  w0 : 0 ≤ j.f1
  w1 : j.f1 ≤ 50
  r0 : 0 ≤ j.f2
  r1 : j.f2 ≤ 500
  d0 : 0 ≤ j.f3
  d1 : j.f3 ≤ 500
def Good (l : List S46) : Prop := l.length ≤ 8 ∧ ∀ j ∈ l, JobOk j
theorem goodB_iff {l : List S46} : goodB l = true ↔ Good l := by
  simp only [goodB, Good, Bool.and_eq_true, List.all_eq_true, decide_eq_true_eq, jobB, inB_iff]
  constructor
  · rintro ⟨h, hl⟩
    exact ⟨by omega, fun j hj => by
      obtain ⟨⟨a, b⟩, ⟨c, d⟩, ⟨e, f⟩, g, i⟩ := h j hj
      exact ⟨a, b, c, d, e, f, g, i⟩⟩
  · rintro ⟨hl, h⟩
    exact ⟨fun j hj => ⟨⟨(h j hj).t0, (h j hj).t1⟩, ⟨(h j hj).w0, (h j hj).w1⟩, ⟨(h j hj).r0, (h j hj).r1⟩, (h j hj).d0, (h j hj).d1⟩, by omega⟩
theorem l2Job_e (j : S46) : spec_l2Job.f j.f0 j.f1 j.f2 j.f3 = some (jobB j) := by
  simp only [spec_l2Job.f, l1In_e, Option.bind_some, ite_and, jobB]
theorem l2Good_l (r : List S46) : ∀ pre : List S46, (pre ++ r).length < 4611686018427387904 → L (fun k => spec_l2Good.l0 k (pre ++ r) (pre.length : Int)) = some (r.all jobB && decide (((pre ++ r).length : Int) ≤ 8)) := by
  induction r with
  | nil =>
    intro pre hb
    rw [L_shift]
    simp only [spec_l2Good.l0, not_lt_end, if_false, L_const]
    simp
  | cons x r ih =>
    intro pre hb
    rw [L_shift]
    have hl : pre.length < 4611686018427387904 := by simp at hb; omega
    have e : rd_T46 (pre ++ x :: r) (pre.length : Int) = x := getD_mid pre x r _
    simp only [spec_l2Good.l0, lt_mid, le_nat, if_true, e, wrap_mid pre x hl, l2Job_e, Option.bind_some, L_ite, L_const]
    rw [app_cons pre x r, ih (pre ++ [x]) (by simpa using hb), ite_and]
    rw [List.all_cons, Bool.and_assoc]
theorem l2Good_L (l : List S46) (h : l.length < 4611686018427387904) : L (fun k => spec_l2Good.f k l) = some (goodB l) := by
  have := l2Good_l l [] (by simpa using h)
  simpa [goodB, spec_l2Good.f] using this
theorem isDate_e (n : Int) : impl_isDate.f n = some (inB n 0 500) := by
  simp only [impl_isDate.f, within_e, Option.bind_some]
theorem IsJobs_l (r : List S46) : ∀ pre : List S46, (pre ++ r).length < 4611686018427387904 → L (fun k => impl_IsJobs.l0 k (pre ++ r) ((pre ++ r).length : Int) (pre.length : Int)) = some (r.all jobB) := by
  induction r with
  | nil =>
    intro pre hb
    rw [L_shift]
    simp only [impl_IsJobs.l0, not_lt_end, if_false, L_const]
    simp
  | cons x r ih =>
    intro pre hb
    rw [L_shift]
    have hl : pre.length < 4611686018427387904 := by simp at hb; omega
    have e : rd_T46 (pre ++ x :: r) (pre.length : Int) = x := getD_mid pre x r _
    simp only [impl_IsJobs.l0, lt_mid, le_nat, if_true, e, wrap_mid pre x hl, within_e, isDate_e, Option.bind_some, L_ite, L_const]
    rw [app_cons pre x r, ih (pre ++ [x]) (by simpa using hb)]
    simp only [ite_and, List.all_cons, jobB, Bool.and_assoc]
theorem IsJobs_L (l : List S46) (h : l.length < 4611686018427387904) : L (fun k => impl_IsJobs.f k l) = some (goodB l) := by
  have := IsJobs_l l [] (by simpa using h)
  simp only [List.nil_append, List.length_nil, Int.natCast_zero] at this
  simp only [impl_IsJobs.f, L_ite, L_const, this, goodB]
  by_cases h8 : (l.length : Int) ≤ 8
  · rw [if_neg (by omega)]
    simp [h8]
  · rw [if_pos (by omega)]
    simp [h8]
def plainB (l : List S46) : Bool := l.all (fun j => decide (j.f2 = 0))
theorem isPlain_l (r : List S46) : ∀ pre : List S46, (pre ++ r).length < 4611686018427387904 → L (fun k => impl_isPlain.l0 k (pre ++ r) ((pre ++ r).length : Int) (pre.length : Int)) = some (plainB r) := by
  induction r with
  | nil =>
    intro pre hb
    rw [L_shift]
    simp only [impl_isPlain.l0, not_lt_end, if_false, L_const]
    rfl
  | cons x r ih =>
    intro pre hb
    rw [L_shift]
    have hl : pre.length < 4611686018427387904 := by simp at hb; omega
    have e : rd_T46 (pre ++ x :: r) (pre.length : Int) = x := getD_mid pre x r _
    simp only [impl_isPlain.l0, lt_mid, le_nat, if_true, e, wrap_mid pre x hl, L_ite, L_const]
    rw [app_cons pre x r, ih (pre ++ [x]) (by simpa using hb)]
    by_cases h : x.f2 = 0 <;> simp [h, plainB]
theorem isPlain_L (l : List S46) (h : l.length < 4611686018427387904) : L (fun k => impl_isPlain.f k l) = some (plainB l) := by
  have := isPlain_l l [] (by simpa using h)
  simpa [impl_isPlain.f] using this
theorem IsPlain_L (l : List S46) (h : l.length < 4611686018427387904) : L (fun k => impl_IsPlain.f k l) = some (goodB l && plainB l) := by
  simp only [impl_IsPlain.f, bind_self, L_bind, IsJobs_L l h, Option.bind_some, L_ite, isPlain_L l h, L_const, ite_and]
theorem l3Plain_l (r : List S46) : ∀ pre : List S46, (pre ++ r).length < 4611686018427387904 → L (fun k => spec_l3Plain.l0 k (pre ++ r) (pre.length : Int)) = some (plainB r) := by
  induction r with
  | nil =>
    intro pre hb
    rw [L_shift]
    simp only [spec_l3Plain.l0, not_lt_end, if_false, L_const]
    rfl
  | cons x r ih =>
    intro pre hb
    rw [L_shift]
    have hl : pre.length < 4611686018427387904 := by simp at hb; omega
    have e : rd_T46 (pre ++ x :: r) (pre.length : Int) = x := getD_mid pre x r _
    simp only [spec_l3Plain.l0, lt_mid, le_nat, if_true, e, wrap_mid pre x hl, L_ite, L_const]
    rw [app_cons pre x r, ih (pre ++ [x]) (by simpa using hb)]
    by_cases h : x.f2 = 0 <;> simp [h, plainB]
theorem l3Plain_L (l : List S46) (h : l.length < 4611686018427387904) : L (fun k => spec_l3Plain.f k l) = some (plainB l) := by
  have := l3Plain_l l [] (by simpa using h)
  simpa [spec_l3Plain.f] using this
theorem eqIntA2S_l (r : List S37) : ∀ pre : List S37, (pre ++ r).length < 4611686018427387904 → L (fun k => laws_eqIntA2S.l0 k (pre ++ r) (pre ++ r) (pre.length : Int)) = some true := by
  induction r with
  | nil =>
    intro pre hb
    rw [L_shift]
    simp only [laws_eqIntA2S.l0, not_lt_end, if_false, L_const]
  | cons x r ih =>
    intro pre hb
    rw [L_shift]
    have hl : pre.length < 4611686018427387904 := by simp at hb; omega
    simp only [laws_eqIntA2S.l0, laws_eqIntA2.f, lt_mid, le_nat, if_true, wrap_mid pre x hl, Option.bind_some]
    rw [app_cons pre x r]
    exact ih (pre ++ [x]) (by simpa using hb)
theorem eqIntA2S_L (l : List S37) (h : l.length ≤ 1048576) : L (fun k => laws_eqIntA2S.f k l l) = some true := by
  simp only [laws_eqIntA2S.f, if_true]
  exact eqIntA2S_l l [] (by simp; omega)
theorem szIntA2S_e (l : List S37) (v : Int) (h : l.length ≤ 9223372036854775807) (h0 : 0 ≤ v) (h1 : v ≤ 1048576) : laws_szIntA2S.f l v = some (if (l.length : Int) ≤ v then v - (l.length : Int) else -1) := by
  unfold laws_szIntA2S.f
  rw [wrap_id (show -9223372036854775808 ≤ v - (l.length : Int) by omega) (by omega)]
  by_cases h2 : (l.length : Int) ≤ v
  · rw [if_neg (by omega), if_pos h2]
  · rw [if_pos (by omega), if_neg h2]
theorem toIntA2S_l (r : List S37) : ∀ pre : List S37, (pre ++ r).length < 4611686018427387904 → L (fun k => laws_toIntA2S.l0 k (pre ++ r) (pre ++ List.replicate r.length z37) (pre.length : Int)) = some (pre ++ r) := by
  induction r with
  | nil =>
    intro pre hb
    rw [L_shift]
    simp only [laws_toIntA2S.l0, not_lt_end, if_false, L_const, List.length_nil, List.replicate_zero]
  | cons x r ih =>
    intro pre hb
    rw [L_shift]
    have hl : pre.length < 4611686018427387904 := by simp at hb; omega
    have e : rd_T37 (pre ++ x :: r) (pre.length : Int) = x := getD_mid pre x r _
    simp only [laws_toIntA2S.l0, lt_mid, le_nat, if_true, List.length_cons, List.replicate_succ, e, laws_toIntA2.f, Option.bind_some, wrap_mid pre x hl, set_mid pre _ _ _ pre rfl]
    rw [app_cons pre x r, app_cons pre x (List.replicate _ _)]
    exact ih (pre ++ [x]) (by simpa using hb)
theorem toIntA2S_L (l : List S37) (h : l.length ≤ 1048576) : L (fun k => laws_toIntA2S.f k l) = some l := by
  simp only [laws_toIntA2S.f, le_nat, if_true, Int.toNat_natCast, if_pos (show l.length ≤ 17592186044416 by omega)]
  exact toIntA2S_l l [] (by simp; omega)
/-- A table of n rows of n answers. -/
def tabN (n : Nat) (R : Nat → Nat → Bool) : List (List Bool) := (List.range n).map fun i => (List.range n).map (R i)
theorem tabN_length (n : Nat) (R : Nat → Nat → Bool) : (tabN n R).length = n := by simp [tabN]
theorem rangeRow_len (n : Nat) (f : Nat → Bool) : ((List.range n).map f).length = n := by simp
theorem tabN_row (n : Nat) (R : Nat → Nat → Bool) (i : Nat) (hi : i < n) : rd_L5 (tabN n R) (i : Int) = (List.range n).map (R i) := by
  show (tabN n R).getD (i : Int).toNat [] = _
  rw [Int.toNat_natCast]
  simp [tabN, List.getD_eq_getElem?_getD, hi]
theorem row_get (n : Nat) (f : Nat → Bool) (j : Nat) (hj : j < n) : rdOf false ((List.range n).map f) (j : Int) = f j := by
  show ((List.range n).map f).getD (j : Int).toNat false = _
  rw [Int.toNat_natCast]
  simp [List.getD_eq_getElem?_getD, hj]
def updR (R : Nat → Nat → Bool) (i j : Nat) (v : Bool) : Nat → Nat → Bool := fun a b => if a = i ∧ b = j then v else R a b
theorem tabN_congr (n : Nat) (R Q : Nat → Nat → Bool) (h : ∀ i j, i < n → j < n → R i j = Q i j) : tabN n R = tabN n Q := by
  refine List.map_congr_left fun i hi => List.map_congr_left fun j hj => h i j (List.mem_range.1 hi) (List.mem_range.1 hj)
theorem tabN_set (n : Nat) (R : Nat → Nat → Bool) (i j : Nat) (v : Bool) (hi : i < n) : (tabN n R).set (i : Int).toNat (((List.range n).map (R i)).set (j : Int).toNat v) = tabN n (updR R i j v) := by
  rw [Int.toNat_natCast, Int.toNat_natCast]
  refine List.ext_getElem (by simp [tabN]) fun a h1 h2 => ?_
  rw [List.getElem_set]
  by_cases e : i = a
  · subst e
    rw [if_pos rfl]
    refine List.ext_getElem (by simp [tabN]) fun b h3 h4 => ?_
    simp only [tabN, List.getElem_map, List.getElem_range, List.getElem_set, updR, true_and]
    by_cases e2 : j = b
    · rw [if_pos e2, if_pos e2.symm]
    · rw [if_neg e2, if_neg (fun h => e2 h.symm)]
  · rw [if_neg e]
    simp only [tabN, List.getElem_map, List.getElem_range]
    refine List.map_congr_left fun b _ => ?_
    simp only [updR, if_neg (fun h : a = i ∧ b = j => e h.1.symm)]
def stepR (k : Nat) (R : Nat → Nat → Bool) : Nat → Nat → Bool := fun i j => R i j || (R i k && R k j)
/-- Warshall's steps by the pivots k, k + 1, .. -/
def warR : Nat → Nat → (Nat → Nat → Bool) → Nat → Nat → Bool
  | 0, _, R => R
  | d + 1, k, R => warR d (k + 1) (stepR k R)
theorem stepR_col (k : Nat) (R : Nat → Nat → Bool) (i : Nat) : stepR k R i k = R i k := by
  unfold stepR
  cases R i k <;> cases R k k <;> rfl
theorem stepR_row (k : Nat) (R : Nat → Nat → Bool) (j : Nat) : stepR k R k j = R k j := by
  unfold stepR
  cases R k j <;> cases R k k <;> rfl
def ClosedR (R : Nat → Nat → Bool) (m : Nat) : Prop := ∀ i j, R i m = true → R m j = true → R i j = true
theorem stepR_self (k : Nat) (R : Nat → Nat → Bool) : ClosedR (stepR k R) k := fun i j h1 h2 => by
  rw [stepR_col] at h1
  rw [stepR_row] at h2
  unfold stepR
  rw [h1, h2]
  cases R i j <;> rfl
theorem stepR_iff (k : Nat) (R : Nat → Nat → Bool) (i j : Nat) : stepR k R i j = true ↔ R i j = true ∨ (R i k = true ∧ R k j = true) := by
  unfold stepR
  rw [Bool.or_eq_true, Bool.and_eq_true]
theorem stepR_keep (k m : Nat) (R : Nat → Nat → Bool) (h : ClosedR R m) : ClosedR (stepR k R) m := fun i j h1 h2 => by
  rw [stepR_iff] at h1 h2 ⊢
  rcases h1 with h1 | ⟨h1, h1'⟩
  · rcases h2 with h2 | ⟨h2, h2'⟩
    · exact .inl (h i j h1 h2)
    · exact .inr ⟨h i k h1 h2, h2'⟩
  · rcases h2 with h2 | ⟨h2, h2'⟩
    · exact .inr ⟨h1, h k j h1' h2⟩
    · exact .inr ⟨h1, h2'⟩
theorem warR_closed : ∀ (d k : Nat) (R : Nat → Nat → Bool), (∀ m, m < k → ClosedR R m) → ∀ m, m < k + d → ClosedR (warR d k R) m
  | 0, k, R, h, m, hm => h m hm
  | d + 1, k, R, h, m, hm => warR_closed d (k + 1) (stepR k R) (fun m hm => by
      by_cases e : m = k
      · subst e; exact stepR_self m R
      · exact stepR_keep k m R (h m (by omega))) m (by omega)
theorem warR_mono : ∀ (d k : Nat) (R Q : Nat → Nat → Bool), (∀ i j, R i j = true → Q i j = true) → ∀ i j, warR d k R i j = true → warR d k Q i j = true
  | 0, k, R, Q, h, i, j, hr => h i j hr
  | d + 1, k, R, Q, h, i, j, hr => warR_mono d (k + 1) (stepR k R) (stepR k Q) (fun a b hab => by
      rw [stepR_iff] at hab ⊢
      rcases hab with hab | ⟨h1, h2⟩
      · exact .inl (h _ _ hab)
      · exact .inr ⟨h _ _ h1, h _ _ h2⟩) i j hr
/-- Where a pivot's double loop stands. -/
def partR (k : Nat) (R : Nat → Nat → Bool) (i j : Nat) : Nat → Nat → Bool := fun a b => if a < i ∨ (a = i ∧ b < j) then stepR k R a b else R a b
theorem partR_col (k : Nat) (R : Nat → Nat → Bool) (i j a : Nat) : partR k R i j a k = R a k := by
  unfold partR
  split
  · exact stepR_col k R a
  · rfl
theorem partR_row (k : Nat) (R : Nat → Nat → Bool) (i j b : Nat) : partR k R i j k b = R k b := by
  unfold partR
  split
  · exact stepR_row k R b
  · rfl
theorem partR_at (k : Nat) (R : Nat → Nat → Bool) (i j : Nat) : partR k R i j i j = R i j := by
  unfold partR
  rw [if_neg (by omega)]
theorem partR_set (k : Nat) (R : Nat → Nat → Bool) (i j : Nat) (v : Bool) (hv : v = stepR k R i j) : updR (partR k R i j) i j v = partR k R i (j + 1) := by
  funext a b
  unfold updR partR
  by_cases e : a = i ∧ b = j
  · obtain ⟨rfl, rfl⟩ := e
    rw [if_pos ⟨rfl, rfl⟩, if_pos (by omega), hv]
  · rw [if_neg e]
    by_cases c : a < i ∨ a = i ∧ b < j
    · rw [if_pos c, if_pos (by omega)]
    · rw [if_neg c, if_neg (by omega)]
theorem partR_same (k : Nat) (R : Nat → Nat → Bool) (i j : Nat) (h : (R i k && R k j) = false) : partR k R i j = partR k R i (j + 1) := by
  funext a b
  unfold partR
  by_cases e : a = i ∧ b = j
  · obtain ⟨rfl, rfl⟩ := e
    rw [if_neg (by omega), if_pos (by omega), stepR, h, Bool.or_false]
  · by_cases c : a < i ∨ a = i ∧ b < j
    · rw [if_pos c, if_pos (by omega)]
    · rw [if_neg c, if_neg (by omega)]
theorem partR_next (n k : Nat) (R : Nat → Nat → Bool) (i : Nat) : tabN n (partR k R i n) = tabN n (partR k R (i + 1) 0) := by
  refine tabN_congr n _ _ fun a b ha hb => ?_
  unfold partR
  by_cases c : a < i + 1
  · rw [if_pos (by omega), if_pos (by omega)]
  · rw [if_neg (by omega), if_neg (by omega)]
theorem partR_done (n k : Nat) (R : Nat → Nat → Bool) : tabN n (partR k R n 0) = tabN n (stepR k R) := by
  refine tabN_congr n _ _ fun a b ha hb => ?_
  unfold partR
  rw [if_pos (.inl ha)]
theorem partR_zero (k : Nat) (R : Nat → Nat → Bool) : partR k R 0 0 = R := by
  funext a b
  unfold partR
  rw [if_neg (by omega)]
theorem nw1 {n : Nat} (hn : n ≤ 1000) (i : Nat) (hi : i < n) : wrap64 ((i : Int) + 1) = ((i + 1 : Nat) : Int) := by
  rw [wrap_id (by omega) (by omega)]; omega
theorem tab_l4 (n : Nat) (hn : n ≤ 1000) (k : Nat) (hk : k < n) (R : Nat → Nat → Bool) (i : Nat) (hi : i < n) : ∀ (d j : Nat), j + d = n → L (fun q => spec_l4Table.l4 q (n : Int) (tabN n (partR k R i j)) (k : Int) (i : Int) (j : Int)) = L (fun q => spec_l4Table.l3 q (n : Int) (tabN n (partR k R (i + 1) 0)) (k : Int) ((i + 1 : Nat) : Int))
  | 0, j, h => by
    have e : j = n := by omega
    subst e
    rw [L_shift]
    simp only [spec_l4Table.l4, if_neg (Int.lt_irrefl _), nw1 hn i hi, partR_next]
  | d + 1, j, h => by
    have ih := tab_l4 n hn k hk R i hi d (j + 1) (by omega)
    have hj : j < n := by omega
    have c1 : (j : Int) < (n : Int) := by omega
    have c2 : (i : Int) < (n : Int) := by omega
    have c3 : (k : Int) < (n : Int) := by omega
    rw [L_shift]
    simp only [spec_l4Table.l4, if_pos c1, le_nat, if_true, tabN_length, if_pos c2, if_pos c3, tabN_row n _ i hi, tabN_row n _ k hk, rangeRow_len, row_get n _ k hk, row_get n _ j hj, partR_col, partR_row, nw1 hn j hj, tabN_set n _ i j _ hi, L_ite]
    by_cases h1 : R i k = true
    · by_cases h2 : R k j = true
      · rw [if_pos h1, if_pos h2, partR_set k R i j true (by unfold stepR; rw [h1, h2]; cases R i j <;> rfl)]
        exact ih
      · rw [if_pos h1, if_neg h2, partR_same k R i j (by rw [h1, Bool.eq_false_iff.2 h2]; rfl)]
        exact ih
    · rw [if_neg h1, partR_same k R i j (by rw [Bool.eq_false_iff.2 h1]; rfl)]
      exact ih
theorem clo_l4 (n : Nat) (hn : n ≤ 1000) (k : Nat) (hk : k < n) (R : Nat → Nat → Bool) (i : Nat) (hi : i < n) : ∀ (d j : Nat), j + d = n → L (fun q => impl_closure.l4 q (n : Int) (tabN n (partR k R i j)) (k : Int) (i : Int) (j : Int)) = L (fun q => impl_closure.l3 q (n : Int) (tabN n (partR k R (i + 1) 0)) (k : Int) ((i + 1 : Nat) : Int))
  | 0, j, h => by
    have e : j = n := by omega
    subst e
    rw [L_shift]
    simp only [impl_closure.l4, if_neg (Int.lt_irrefl _), nw1 hn i hi, partR_next]
  | d + 1, j, h => by
    have ih := clo_l4 n hn k hk R i hi d (j + 1) (by omega)
    have hj : j < n := by omega
    have c1 : (j : Int) < (n : Int) := by omega
    have c2 : (i : Int) < (n : Int) := by omega
    have c3 : (k : Int) < (n : Int) := by omega
    rw [L_shift]
    simp only [impl_closure.l4, if_pos c1, le_nat, if_true, tabN_length, if_pos c2, if_pos c3, tabN_row n _ i hi, tabN_row n _ k hk, rangeRow_len, row_get n _ k hk, row_get n _ j hj, partR_col, partR_row, partR_at, nw1 hn j hj, tabN_set n _ i j _ hi, L_ite]
    by_cases h0 : R i j = true
    · rw [if_pos h0, partR_set k R i j true (by unfold stepR; rw [h0]; rfl)]
      exact ih
    · have h0' := Bool.eq_false_iff.2 h0
      rw [if_neg h0]
      by_cases h1 : R i k = true
      · rw [if_pos h1, partR_set k R i j (R k j) (by unfold stepR; rw [h0', h1]; cases R k j <;> rfl)]
        exact ih
      · rw [if_neg h1, partR_set k R i j false (by unfold stepR; rw [h0', Bool.eq_false_iff.2 h1]; rfl)]
        exact ih
theorem tab_l3 (n : Nat) (hn : n ≤ 1000) (k : Nat) (hk : k < n) (R : Nat → Nat → Bool) : ∀ (d i : Nat), i + d = n → L (fun q => spec_l4Table.l3 q (n : Int) (tabN n (partR k R i 0)) (k : Int) (i : Int)) = L (fun q => spec_l4Table.l2 q (n : Int) (tabN n (stepR k R)) ((k + 1 : Nat) : Int))
  | 0, i, h => by
    have e : i = n := by omega
    subst e
    rw [L_shift]
    simp only [spec_l4Table.l3, if_neg (Int.lt_irrefl _), nw1 hn k hk, partR_done]
  | d + 1, i, h => by
    have h4 := tab_l4 n hn k hk R i (by omega) n 0 (by omega)
    rw [Int.natCast_zero] at h4
    rw [L_shift]
    simp only [spec_l4Table.l3, if_pos (show (i : Int) < (n : Int) by omega), h4]
    exact tab_l3 n hn k hk R d (i + 1) (by omega)
theorem clo_l3 (n : Nat) (hn : n ≤ 1000) (k : Nat) (hk : k < n) (R : Nat → Nat → Bool) : ∀ (d i : Nat), i + d = n → L (fun q => impl_closure.l3 q (n : Int) (tabN n (partR k R i 0)) (k : Int) (i : Int)) = L (fun q => impl_closure.l2 q (n : Int) (tabN n (stepR k R)) ((k + 1 : Nat) : Int))
  | 0, i, h => by
    have e : i = n := by omega
    subst e
    rw [L_shift]
    simp only [impl_closure.l3, if_neg (Int.lt_irrefl _), nw1 hn k hk, partR_done]
  | d + 1, i, h => by
    have h4 := clo_l4 n hn k hk R i (by omega) n 0 (by omega)
    rw [Int.natCast_zero] at h4
    rw [L_shift]
    simp only [impl_closure.l3, if_pos (show (i : Int) < (n : Int) by omega), h4]
    exact clo_l3 n hn k hk R d (i + 1) (by omega)
theorem tab_l2 (n : Nat) (hn : n ≤ 1000) : ∀ (d k : Nat) (R : Nat → Nat → Bool), k + d = n → L (fun q => spec_l4Table.l2 q (n : Int) (tabN n R) (k : Int)) = some (tabN n (warR d k R))
  | 0, k, R, h => by
    have e : k = n := by omega
    subst e
    rw [L_shift]
    simp only [spec_l4Table.l2, if_neg (Int.lt_irrefl _), L_const, warR]
  | d + 1, k, R, h => by
    have h3 := tab_l3 n hn k (by omega) R n 0 (by omega)
    rw [partR_zero, Int.natCast_zero] at h3
    rw [L_shift]
    simp only [spec_l4Table.l2, if_pos (show (k : Int) < (n : Int) by omega), h3, warR]
    exact tab_l2 n hn d (k + 1) _ (by omega)
theorem clo_l2 (n : Nat) (hn : n ≤ 1000) : ∀ (d k : Nat) (R : Nat → Nat → Bool), k + d = n → L (fun q => impl_closure.l2 q (n : Int) (tabN n R) (k : Int)) = some (tabN n (warR d k R))
  | 0, k, R, h => by
    have e : k = n := by omega
    subst e
    rw [L_shift]
    simp only [impl_closure.l2, if_neg (Int.lt_irrefl _), L_const, warR]
  | d + 1, k, R, h => by
    have h3 := clo_l3 n hn k (by omega) R n 0 (by omega)
    rw [partR_zero, Int.natCast_zero] at h3
    rw [L_shift]
    simp only [impl_closure.l2, if_pos (show (k : Int) < (n : Int) by omega), h3, warR]
    exact clo_l2 n hn d (k + 1) _ (by omega)
def PairIn (n : Nat) (e : S37) : Prop := (0 ≤ e.f0 ∧ e.f0 < (n : Int)) ∧ (0 ≤ e.f1 ∧ e.f1 < (n : Int))
def markR (R : Nat → Nat → Bool) : List S37 → Nat → Nat → Bool
  | [] => R
  | e :: r => markR (updR R e.f0.toNat e.f1.toNat true) r
theorem markR_iff : ∀ (es : List S37) (R : Nat → Nat → Bool) (i j : Nat), markR R es i j = true ↔ R i j = true ∨ ∃ e ∈ es, e.f0.toNat = i ∧ e.f1.toNat = j
  | [], R, i, j => ⟨fun h => .inl h, fun h => h.elim id (fun ⟨_, h, _⟩ => nomatch h)⟩
  | e :: r, R, i, j => by
    rw [markR, markR_iff r]
    unfold updR
    constructor
    · rintro (h | ⟨x, hx, h⟩)
      · by_cases c : i = e.f0.toNat ∧ j = e.f1.toNat
        · exact .inr ⟨e, List.mem_cons_self, c.1.symm, c.2.symm⟩
        · rw [if_neg c] at h; exact .inl h
      · exact .inr ⟨x, List.mem_cons_of_mem _ hx, h⟩
    · rintro (h | ⟨x, hx, h⟩)
      · left
        split
        · rfl
        · exact h
      · rcases List.mem_cons.1 hx with rfl | hx
        · left; rw [if_pos ⟨h.1.symm, h.2.symm⟩]
        · exact .inr ⟨x, hx, h⟩
def noR : Nat → Nat → Bool := fun _ _ => false
/-- What lies behind what, over all ways. -/
def closR (n : Nat) (es : List S37) : Nat → Nat → Bool := warR n 0 (markR noR es)
theorem closR_trans (n : Nat) (es : List S37) (i m j : Nat) (hm : m < n) (h1 : closR n es i m = true) (h2 : closR n es m j = true) : closR n es i j = true :=
  warR_closed n 0 _ (fun m hm => absurd hm (by omega)) m (by omega) i j h1 h2
theorem closR_mono (n : Nat) (es fs : List S37) (h : ∀ e ∈ es, e ∈ fs) (i j : Nat) (hr : closR n es i j = true) : closR n fs i j = true :=
  warR_mono n 0 _ _ (fun a b hab => by
    rw [markR_iff] at hab ⊢
    rcases hab with hab | ⟨e, he, h2⟩
    · exact .inl hab
    · exact .inr ⟨e, h e he, h2⟩) i j hr
theorem repRow (n : Nat) : List.replicate n (List.replicate n false) = tabN n noR := by
  refine List.ext_getElem (by simp [tabN]) fun a h1 h2 => ?_
  simp only [List.getElem_replicate, tabN, List.getElem_map, List.getElem_range]
  refine List.ext_getElem (by simp) fun b h3 h4 => ?_
  simp [noR]
theorem edge_nat {n : Nat} {e : S37} (h : PairIn n e) : ∃ a b : Nat, e.f0 = (a : Int) ∧ e.f1 = (b : Int) ∧ a < n ∧ b < n ∧ e.f0.toNat = a ∧ e.f1.toNat = b :=
  ⟨e.f0.toNat, e.f1.toNat, (Int.toNat_of_nonneg h.1.1).symm, (Int.toNat_of_nonneg h.2.1).symm, by have := h.1; omega, by have := h.2; omega, rfl, rfl⟩
theorem tab_l1 (n : Nat) (hn : n ≤ 1000) (es : List S37) (hl : es.length ≤ 2000000) (he : ∀ e ∈ es, PairIn n e) : ∀ (r pre : List S37) (R : Nat → Nat → Bool), es = pre ++ r → L (fun q => spec_l4Table.l1 q (n : Int) es (tabN n R) (pre.length : Int)) = some (tabN n (warR n 0 (markR R r)))
  | [], pre, R, e => by
    rw [List.append_nil] at e
    have h2 := tab_l2 n hn n 0 R (by omega)
    rw [Int.natCast_zero] at h2
    rw [L_shift]
    simp only [spec_l4Table.l1, if_neg (show ¬ ((pre.length : Int) < (es.length : Int)) by rw [e]; omega), h2, markR]
  | x :: r, pre, R, e => by
    have hl2 : es.length = pre.length + (r.length + 1) := by rw [e]; simp
    have ew : wrap64 ((pre.length : Int) + 1) = ((pre ++ [x]).length : Int) := wrap_mid pre x (by omega)
    have er : rd_T37 es (pre.length : Int) = x := by rw [e]; exact getD_mid pre x r _
    obtain ⟨a, b, ea, eb, ha, hb, na, nb⟩ := edge_nat (he x (by rw [e]; simp))
    have ih := tab_l1 n hn es hl he r (pre ++ [x]) (updR R a b true) (by rw [e]; simp)
    have ts := tabN_set n R a b true ha
    rw [Int.toNat_natCast, Int.toNat_natCast] at ts
    have c1 : (pre.length : Int) < (es.length : Int) := by omega
    have c2 : (a : Int) < (n : Int) := by omega
    have c3 : (b : Int) < (n : Int) := by omega
    rw [L_shift]
    simp only [spec_l4Table.l1, if_pos c1, le_nat, if_true, er, ea, eb, tabN_length, if_pos c2, tabN_row n _ a ha, rangeRow_len, if_pos c3, Int.toNat_natCast, ts, ew, ih, markR]
theorem clo_l1 (n : Nat) (hn : n ≤ 1000) (es : List S37) (hl : es.length ≤ 2000000) (he : ∀ e ∈ es, PairIn n e) : ∀ (r pre : List S37) (R : Nat → Nat → Bool), es = pre ++ r → L (fun q => impl_closure.l1 q (n : Int) (tabN n R) es (es.length : Int) (pre.length : Int)) = some (tabN n (warR n 0 (markR R r)))
  | [], pre, R, e => by
    rw [List.append_nil] at e
    have h2 := clo_l2 n hn n 0 R (by omega)
    rw [Int.natCast_zero] at h2
    rw [L_shift]
    simp only [impl_closure.l1, if_neg (show ¬ ((pre.length : Int) < (es.length : Int)) by rw [e]; omega), h2, markR]
  | x :: r, pre, R, e => by
    have hl2 : es.length = pre.length + (r.length + 1) := by rw [e]; simp
    have ew : wrap64 ((pre.length : Int) + 1) = ((pre ++ [x]).length : Int) := wrap_mid pre x (by omega)
    have er : rd_T37 es (pre.length : Int) = x := by rw [e]; exact getD_mid pre x r _
    obtain ⟨a, b, ea, eb, ha, hb, na, nb⟩ := edge_nat (he x (by rw [e]; simp))
    have ih := clo_l1 n hn es hl he r (pre ++ [x]) (updR R a b true) (by rw [e]; simp)
    have ts := tabN_set n R a b true ha
    rw [Int.toNat_natCast, Int.toNat_natCast] at ts
    have c1 : (pre.length : Int) < (es.length : Int) := by omega
    have c2 : (a : Int) < (n : Int) := by omega
    have c3 : (b : Int) < (n : Int) := by omega
    rw [L_shift]
    simp only [impl_closure.l1, if_pos c1, le_nat, if_true, er, ea, eb, tabN_length, if_pos c2, tabN_row n _ a ha, rangeRow_len, if_pos c3, Int.toNat_natCast, ts, ew, ih, markR]
theorem tab_l0 (n : Nat) (hn : n ≤ 1000) (es : List S37) (hl : es.length ≤ 2000000) (he : ∀ e ∈ es, PairIn n e) : ∀ (d i : Nat), i + d = n → L (fun q => spec_l4Table.l0 q (n : Int) es (List.replicate i (List.replicate n false)) (i : Int)) = some (tabN n (closR n es))
  | 0, i, h => by
    have e : i = n := by omega
    subst e
    have h1 := tab_l1 i hn es hl he es [] noR rfl
    rw [List.length_nil, Int.natCast_zero] at h1
    rw [L_shift]
    simp only [spec_l4Table.l0, if_neg (Int.lt_irrefl _), repRow, h1, closR]
  | d + 1, i, h => by
    have ih := tab_l0 n hn es hl he d (i + 1) (by omega)
    rw [List.replicate_succ'] at ih
    rw [L_shift]
    simp only [spec_l4Table.l0, if_pos (show (i : Int) < (n : Int) by omega), le_nat, if_true, Int.toNat_natCast, if_pos (show n ≤ 281474976710656 by omega), List.length_replicate, if_pos (show i < 5864062014805 by omega), nw1 hn i (by omega)]
    exact ih
theorem clo_l0 (n : Nat) (hn : n ≤ 1000) (es : List S37) (hl : es.length ≤ 2000000) (he : ∀ e ∈ es, PairIn n e) : ∀ (d i : Nat), i + d = n → L (fun q => impl_closure.l0 q (n : Int) es (List.replicate i (List.replicate n false) ++ List.replicate d []) (n : Int) (i : Int)) = some (tabN n (closR n es))
  | 0, i, h => by
    have e : i = n := by omega
    subst e
    have h1 := clo_l1 i hn es hl he es [] noR rfl
    rw [List.length_nil, Int.natCast_zero] at h1
    rw [L_shift]
    simp only [impl_closure.l0, if_neg (Int.lt_irrefl _), List.replicate_zero, List.append_nil, repRow, h1, closR]
  | d + 1, i, h => by
    have ih := clo_l0 n hn es hl he d (i + 1) (by omega)
    have el : (List.replicate i (List.replicate n false) ++ List.replicate (d + 1) ([] : List Bool)).length = n := by simp; omega
    have es2 : (List.replicate i (List.replicate n false) ++ List.replicate (d + 1) ([] : List Bool)).set i (List.replicate n false) = List.replicate (i + 1) (List.replicate n false) ++ List.replicate d [] := by
      rw [List.set_append_right _ _ (by simp), List.length_replicate, Nat.sub_self, List.replicate_succ, List.set_cons_zero, List.replicate_succ' , List.append_assoc]
      rfl
    rw [L_shift]
    simp only [impl_closure.l0, if_pos (show (i : Int) < (n : Int) by omega), le_nat, if_true, Int.toNat_natCast, if_pos (show n ≤ 281474976710656 by omega), el, es2, nw1 hn i (by omega)]
    exact ih
theorem l4Table_L (n : Nat) (hn : n ≤ 1000) (es : List S37) (hl : es.length ≤ 2000000) (he : ∀ e ∈ es, PairIn n e) : L (fun q => spec_l4Table.f q (n : Int) es) = some (tabN n (closR n es)) := tab_l0 n hn es hl he n 0 (by omega)
theorem closure_L (n : Nat) (hn : n ≤ 1000) (es : List S37) (hl : es.length ≤ 2000000) (he : ∀ e ∈ es, PairIn n e) : L (fun q => impl_closure.f q (n : Int) es) = some (tabN n (closR n es)) := by
  have h := clo_l0 n hn es hl he n 0 (by omega)
  rw [List.replicate_zero, List.nil_append, Int.natCast_zero] at h
  simp only [impl_closure.f, le_nat, if_true, Int.toNat_natCast, if_pos (show n ≤ 11728124029610 by omega), Option.bind_some, List.length_replicate, h]
def irrF (R : Nat → Nat → Bool) : Nat → Nat → Bool
  | 0, _ => true
  | d + 1, i => !(R i i) && irrF R d (i + 1)
theorem irrF_iff (R : Nat → Nat → Bool) : ∀ d i, irrF R d i = true ↔ ∀ j, i ≤ j → j < i + d → R j j = false
  | 0, i => ⟨fun _ j h1 h2 => absurd h1 (by omega), fun _ => rfl⟩
  | d + 1, i => by
    rw [irrF, Bool.and_eq_true, irrF_iff R d (i + 1), Bool.not_eq_true']
    exact ⟨fun h j h1 h2 => by
      by_cases e : j = i
      · subst e; exact h.1
      · exact h.2 j (by omega) (by omega), fun h => ⟨h i (by omega) (by omega), fun j h1 h2 => h j (by omega) (by omega)⟩⟩
theorem good_l0 (n : Nat) (hn : n ≤ 1000) (R : Nat → Nat → Bool) : ∀ d i, i + d = n → L (fun q => spec_l4Good.l0 q (n : Int) (tabN n R) (i : Int)) = some (irrF R d i)
  | 0, i, h => by
    rw [L_shift]
    simp only [spec_l4Good.l0, if_neg (show ¬ ((i : Int) < (n : Int)) by omega), L_const, irrF]
  | d + 1, i, h => by
    have hi : i < n := by omega
    have ih := good_l0 n hn R d (i + 1) (by omega)
    have c1 : (i : Int) < (n : Int) := by omega
    rw [L_shift]
    simp only [spec_l4Good.l0, if_pos c1, le_nat, if_true, tabN_length, tabN_row n _ i hi, rangeRow_len, row_get n _ i hi, nw1 hn i hi, L_ite, L_const, ih, irrF]
    cases R i i <;> simp
theorem prec_l1 (n : Nat) (hn : n ≤ 1000) (R : Nat → Nat → Bool) : ∀ d i, i + d = n → L (fun q => impl_IsPrecedence.l1 q (tabN n R) (n : Int) (i : Int)) = some (irrF R d i)
  | 0, i, h => by
    rw [L_shift]
    simp only [impl_IsPrecedence.l1, if_neg (show ¬ ((i : Int) < (n : Int)) by omega), L_const, irrF]
  | d + 1, i, h => by
    have hi : i < n := by omega
    have ih := prec_l1 n hn R d (i + 1) (by omega)
    have c1 : (i : Int) < (n : Int) := by omega
    rw [L_shift]
    simp only [impl_IsPrecedence.l1, if_pos c1, le_nat, if_true, tabN_length, tabN_row n _ i hi, rangeRow_len, row_get n _ i hi, nw1 hn i hi, L_ite, L_const, ih, irrF]
    cases R i i <;> simp
def befB (p e : S37) : Bool := if p.f0 < e.f0 then true else if p.f0 = e.f0 then decide (p.f1 < e.f1) else false
/-- A list of pairs, each behind the one before. -/
def pairsB (n : Nat) : Option S37 → List S37 → Bool
  | _, [] => true
  | p, e :: r => (inB e.f0 0 ((n : Int) - 1) && inB e.f1 0 ((n : Int) - 1)) && (!(e.f0 == e.f1) && ((match p with | none => true | some q => befB q e) && pairsB n (some e) r))
theorem pairsB_in (n : Nat) : ∀ (r : List S37) (p : Option S37), pairsB n p r = true → ∀ e ∈ r, PairIn n e
  | [], p, h, e, he => nomatch he
  | x :: r, p, h, e, he => by
    simp only [pairsB, Bool.and_eq_true, inB_iff] at h
    rcases List.mem_cons.1 he with rfl | he
    · exact ⟨⟨h.1.1.1, by have := h.1.1.2; omega⟩, ⟨h.1.2.1, by have := h.1.2.2; omega⟩⟩
    · exact pairsB_in n r (some x) h.2.2.2 e he
def lastO (pre : List S37) : Option S37 := pre.getLast?
theorem lastO_snoc (pre : List S37) (x : S37) : lastO (pre ++ [x]) = some x := by simp [lastO]
theorem l4Before_e (p e : S37) : spec_l4Before.f p.f0 p.f1 e.f0 e.f1 = some (befB p e) := by
  unfold spec_l4Before.f befB
  split
  · rfl
  · split <;> rfl
theorem isNumber_e2 (a : Int) (n : Nat) (hn : n ≤ 1000) : impl_isNumber.f a (n : Int) = some (inB a 0 ((n : Int) - 1)) := by
  simp only [impl_isNumber.f, within_e, wrap_id (show -9223372036854775808 ≤ (n : Int) - 1 by omega) (by omega), Option.bind_some]
theorem pre_cases (pre : List S37) : (pre = [] ∧ lastO pre = none) ∨ ∃ a q, pre = a ++ [q] ∧ lastO pre = some q := by
  cases h : pre.getLast? with
  | none => exact .inl ⟨List.getLast?_eq_none_iff.1 h, h⟩
  | some q =>
    obtain ⟨a, ha⟩ := List.getLast?_eq_some_iff.1 h
    exact .inr ⟨a, q, ha, h⟩
theorem pairs_l0 (n : Nat) (hn : n ≤ 8) (es : List S37) (hl : es.length ≤ 2000000) : ∀ (r pre : List S37), es = pre ++ r → L (fun q => spec_l4Pairs.l0 q (n : Int) es (pre.length : Int)) = some (pairsB n (lastO pre) r && decide ((es.length : Int) ≤ 28))
  | [], pre, e => by
    rw [List.append_nil] at e
    have h8 : inB (n : Int) 0 8 = true := inB_iff.2 (by omega)
    rw [L_shift]
    simp only [spec_l4Pairs.l0, if_neg (show ¬ ((pre.length : Int) < (es.length : Int)) by rw [e]; omega), l1In_e, h8, Option.bind_some, if_true, L_const, pairsB, Bool.true_and]
  | x :: r, pre, e => by
    have hl2 : es.length = pre.length + (r.length + 1) := by rw [e]; simp
    have ew : wrap64 ((pre.length : Int) + 1) = ((pre ++ [x]).length : Int) := wrap_mid pre x (by omega)
    have er : rd_T37 es (pre.length : Int) = x := by rw [e]; exact getD_mid pre x r _
    have c1 : (pre.length : Int) < (es.length : Int) := by omega
    have wn : wrap64 ((n : Int) - 1) = (n : Int) - 1 := wrap_id (by omega) (by omega)
    have ih := pairs_l0 n hn es hl r (pre ++ [x]) (by rw [e]; simp)
    rw [lastO_snoc] at ih
    rw [L_shift]
    simp only [spec_l4Pairs.l0, if_pos c1, le_nat, if_true, er, l1In_e, wn, Option.bind_some, ew, pairsB]
    cases h1 : inB x.f0 0 ((n : Int) - 1) with
    | false => simp only [Bool.false_eq_true, if_false, L_const, Bool.false_and]
    | true =>
      cases h2 : inB x.f1 0 ((n : Int) - 1) with
      | false => simp only [if_true, Bool.false_eq_true, if_false, L_const, Bool.and_false, Bool.false_and]
      | true =>
        by_cases h3 : x.f0 = x.f1
        · simp only [if_true, if_pos h3, L_const, beq_iff_eq.2 h3, Bool.and_self, Bool.not_true, Bool.false_and, Bool.and_false]
        · have h3b : (x.f0 == x.f1) = false := beq_eq_false_iff_ne.2 h3
          rcases pre_cases pre with ⟨rfl, hp⟩ | ⟨a, q, rfl, hp⟩
          · simp only [if_true, if_neg h3, List.length_nil, Int.natCast_zero, gt_iff_lt, Int.lt_irrefl, if_false, hp, h3b, Bool.not_false, Bool.true_and]
            exact ih
          · have cq : ((a ++ [q]).length : Int) > 0 := by rw [List.length_append, List.length_singleton]; omega
            have wq : wrap64 (((a ++ [q]).length : Int) - 1) = (a.length : Int) := by
              have e_ : ((a ++ [q]).length : Int) - 1 = (a.length : Int) := by simp
              rw [e_, wrap_id (by omega) (by simp at hl2; omega)]
            have cq2 : (a.length : Int) < (es.length : Int) := by simp at hl2; omega
            have eq : rd_T37 es (a.length : Int) = q := by rw [e, List.append_assoc]; exact getD_mid a q _ _
            simp only [if_true, if_neg h3, if_pos cq, wq, le_nat, if_pos cq2, eq, l4Before_e, Option.bind_some, hp, h3b, Bool.not_false, Bool.true_and]
            cases hb : befB q x with
            | false => simp only [Bool.false_eq_true, if_false, L_const, Bool.false_and]
            | true => simp only [if_true, Bool.true_and]; exact ih
def precB (n : Nat) (es : List S37) : Bool := decide ((es.length : Int) ≤ 28) && (pairsB n none es && irrF (closR n es) n 0)
theorem prec_l0 (n : Nat) (hn : n ≤ 8) (es : List S37) (hl : (es.length : Int) ≤ 28) : ∀ (r pre : List S37), es = pre ++ r → (∀ e ∈ pre, PairIn n e) → L (fun q => impl_IsPrecedence.l0 q (n : Int) es es (es.length : Int) (pre.length : Int)) = some (pairsB n (lastO pre) r && irrF (closR n es) n 0)
  | [], pre, e, hp => by
    rw [List.append_nil] at e
    have hc := closure_L n (by omega) es (by omega) (by rw [e]; exact hp)
    have h1 := prec_l1 n (by omega) (closR n es) n 0 (by omega)
    rw [Int.natCast_zero] at h1
    rw [L_shift]
    simp only [impl_IsPrecedence.l0, if_neg (show ¬ ((pre.length : Int) < (es.length : Int)) by rw [e]; omega), L_bind, hc, Option.bind_some, tabN_length, h1, pairsB, Bool.true_and]
  | x :: r, pre, e, hp => by
    have hl2 : es.length = pre.length + (r.length + 1) := by rw [e]; simp
    have ew : wrap64 ((pre.length : Int) + 1) = ((pre ++ [x]).length : Int) := wrap_mid pre x (by omega)
    have er : rd_T37 es (pre.length : Int) = x := by rw [e]; exact getD_mid pre x r _
    have c1 : (pre.length : Int) < (es.length : Int) := by omega
    have ih := prec_l0 n hn es hl r (pre ++ [x]) (by rw [e]; simp)
    rw [lastO_snoc] at ih
    have hj : ∀ b : Bool, L (fun q => impl_IsPrecedence.j2 q (n : Int) es (pre.length : Int) es (es.length : Int) (pre.length : Int) b x.f0 x.f1) = if b = true then some false else (if (match lastO pre with | none => true | some q => befB q x) = true then L (fun q => impl_IsPrecedence.l0 q (n : Int) es es (es.length : Int) ((pre ++ [x]).length : Int)) else some false) := fun b => by
      rw [L_shift]
      cases b with
      | true => simp only [impl_IsPrecedence.j2, if_true, L_const]
      | false =>
        rcases pre_cases pre with ⟨rfl, hpn⟩ | ⟨a, q, rfl, hpn⟩
        · simp only [impl_IsPrecedence.j2, Bool.false_eq_true, if_false, List.length_nil, Int.natCast_zero, gt_iff_lt, Int.lt_irrefl, hpn, if_true]
          simp only [List.length_nil, Int.natCast_zero] at ew
          rw [ew]
        · have cq : ((a ++ [q]).length : Int) > 0 := by rw [List.length_append, List.length_singleton]; omega
          have wq : wrap64 (((a ++ [q]).length : Int) - 1) = (a.length : Int) := by
            have e_ : ((a ++ [q]).length : Int) - 1 = (a.length : Int) := by simp
            rw [e_, wrap_id (by omega) (by simp at hl2; omega)]
          have cq2 : (a.length : Int) < (es.length : Int) := by simp at hl2; omega
          have eq : rd_T37 es (a.length : Int) = q := by rw [e, List.append_assoc]; exact getD_mid a q _ _
          simp only [impl_IsPrecedence.j2, Bool.false_eq_true, if_false, if_pos cq, wq, le_nat, if_true, if_pos cq2, eq, hpn, ew, L_ite, L_const]
          unfold befB
          by_cases h1 : q.f0 > x.f0
          · rw [if_pos h1, if_neg (show ¬ q.f0 < x.f0 by omega), if_neg (show ¬ q.f0 = x.f0 by omega), if_neg (by decide)]
          · rw [if_neg h1]
            by_cases h2 : q.f0 = x.f0
            · rw [if_pos h2, if_neg (show ¬ q.f0 < x.f0 by omega), if_pos h2]
              by_cases h3 : q.f1 ≥ x.f1
              · rw [if_pos h3, if_neg (by rw [decide_eq_true_eq]; omega)]
              · rw [if_neg h3, if_pos (by rw [decide_eq_true_eq]; omega)]
            · rw [if_neg h2, if_pos (show q.f0 < x.f0 by omega), if_pos rfl]
    rw [L_shift]
    simp only [impl_IsPrecedence.l0, if_pos c1, le_nat, if_true, er, isNumber_e2 _ n (show n ≤ 1000 by omega), Option.bind_some, pairsB]
    cases h1 : inB x.f0 0 ((n : Int) - 1) with
    | false => simp only [Bool.false_eq_true, if_false, hj, if_true, Bool.false_and]
    | true =>
      cases h2 : inB x.f1 0 ((n : Int) - 1) with
      | false => simp only [if_true, Bool.false_eq_true, if_false, hj, Bool.and_false, Bool.false_and]
      | true =>
        simp only [if_true, hj, Bool.true_and, Bool.and_self]
        cases h3 : (x.f0 == x.f1) with
        | true => simp only [if_true, Bool.not_true, Bool.false_and]
        | false =>
          simp only [Bool.false_eq_true, if_false, Bool.not_false, Bool.true_and]
          cases hb : (match lastO pre with | none => true | some q => befB q x) with
          | false => simp only [Bool.false_eq_true, if_false, Bool.false_and]
          | true =>
            simp only [if_true, Bool.true_and]
            rw [inB_iff] at h1 h2
            exact ih (fun y hy => by
              rcases List.mem_append.1 hy with hy | hy
              · exact hp y hy
              · rw [List.mem_singleton.1 hy]
                exact ⟨⟨h1.1, by omega⟩, ⟨h2.1, by omega⟩⟩)
theorem IsPrecedence_L (n : Nat) (hn : n ≤ 8) (es : List S37) : L (fun q => impl_IsPrecedence.f q (n : Int) es) = some (precB n es) := by
  have h8 : inB (n : Int) 0 8 = true := inB_iff.2 (by omega)
  have hj : ∀ b : Bool, L (fun q => impl_IsPrecedence.j0 q (n : Int) es b) = if b = true then some false else L (fun q => impl_IsPrecedence.l0 q (n : Int) es es (es.length : Int) 0) := fun b => by
    rw [L_shift]
    cases b <;> simp [impl_IsPrecedence.j0, L_const]
  simp only [impl_IsPrecedence.f, within_e, h8, Option.bind_some, if_true, hj, precB]
  by_cases hl : (es.length : Int) ≤ 28
  · have h0 := prec_l0 n hn es hl es [] rfl (fun _ h => nomatch h)
    rw [List.length_nil, Int.natCast_zero] at h0
    rw [if_neg (by rw [decide_eq_true_eq]; omega), h0, decide_eq_true hl, Bool.true_and]
    rfl
  · rw [if_pos (by rw [decide_eq_true_eq]; omega), decide_eq_false hl, Bool.false_and]
theorem l4Good_L (n : Nat) (hn : n ≤ 8) (es : List S37) (hl : es.length ≤ 2000000) : L (fun q => spec_l4Good.f q (n : Int) es) = some (precB n es) := by
  have hp := pairs_l0 n hn es hl es [] rfl
  rw [List.length_nil, Int.natCast_zero] at hp
  have hp2 : L (fun q => spec_l4Pairs.f q (n : Int) es) = some (pairsB n none es && decide ((es.length : Int) ≤ 28)) := hp
  simp only [spec_l4Good.f, L_bind, hp2, Option.bind_some, precB, L_ite, L_const]
  cases h1 : pairsB n none es with
  | false => simp
  | true =>
    by_cases h2 : (es.length : Int) ≤ 28
    · have h0 := good_l0 n (by omega) (closR n es) n 0 (by omega)
      rw [Int.natCast_zero] at h0
      rw [decide_eq_true h2]
      simp only [Bool.and_self, if_true, l4Table_L n (by omega) es hl (pairsB_in n es none h1), Option.bind_some, h0, Bool.true_and]
    · rw [decide_eq_false h2]
      simp
theorem precB_iff {n : Nat} {es : List S37} (h : precB n es = true) : es.length ≤ 28 ∧ (∀ e ∈ es, PairIn n e) ∧ ∀ j, j < n → closR n es j j = false := by
  simp only [precB, Bool.and_eq_true, decide_eq_true_eq] at h
  exact ⟨by omega, pairsB_in n es none h.2.1, fun j hj => (irrF_iff _ n 0).1 h.2.2 j (by omega) (by omega)⟩
def stOf (E : List Int) : List Bool := E.map fun e => decide (0 ≤ e)
theorem stOf_length (E : List Int) : (stOf E).length = E.length := by simp [stOf]
theorem st_get (E : List Int) (j : Nat) (hj : j < E.length) : rdOf false (stOf E) (j : Int) = decide (0 ≤ E.getD j 0) := by
  show (stOf E).getD (j : Int).toNat false = _
  rw [Int.toNat_natCast]
  simp [stOf, List.getD_eq_getElem?_getD, hj]
theorem stOf_set (E : List Int) (i : Nat) (v : Int) (hv : 0 ≤ v) : (stOf E).set i true = stOf (E.set i v) := by
  unfold stOf
  rw [List.map_set, decide_eq_true hv]
/-- Whether all jobs ahead of a job have ended by a time. -/
def predF (R : Nat → Nat → Bool) (E : List Int) (i : Nat) (t : Int) : Nat → Nat → Bool
  | 0, _ => true
  | d + 1, j => (!(R j i) || (decide (0 ≤ E.getD j 0) && decide (E.getD j 0 ≤ t))) && predF R E i t d (j + 1)
theorem predF_iff (R : Nat → Nat → Bool) (E : List Int) (i : Nat) (t : Int) : ∀ d k, predF R E i t d k = true ↔ ∀ j, k ≤ j → j < k + d → R j i = true → 0 ≤ E.getD j 0 ∧ E.getD j 0 ≤ t
  | 0, k => ⟨fun _ j h1 h2 => absurd h1 (by omega), fun _ => rfl⟩
  | d + 1, k => by
    rw [predF, Bool.and_eq_true, predF_iff R E i t d (k + 1), Bool.or_eq_true, Bool.and_eq_true, Bool.not_eq_true', decide_eq_true_eq, decide_eq_true_eq]
    constructor
    · intro h j h1 h2 hr
      by_cases e : j = k
      · subst e
        rcases h.1 with h3 | h3
        · rw [hr] at h3; cases h3
        · exact h3
      · exact h.2 j (by omega) (by omega) hr
    · intro h
      refine ⟨?_, fun j h1 h2 => h j (by omega) (by omega)⟩
      cases hr : R k i with
      | false => exact .inl rfl
      | true => exact .inr (h k (by omega) (by omega) hr)
def readyB (n : Nat) (R : Nat → Nat → Bool) (E : List Int) (t : Int) (i : Int) : Bool := decide (E.getD i.toNat 0 < 0) && predF R E i.toNat t n 0
structure Inv (l : List S46) (P : List S55) (E : List Int) : Prop where
  lP : P.length = l.length
  lE : E.length = l.length
  ho : ∀ j, j < l.length → E.getD j 0 = -1 ∨ (0 ≤ E.getD j 0 ∧ E.getD j 0 ≤ 1000 ∧ (P.getD j z55).f0 = (j : Int) ∧ 0 ≤ (P.getD j z55).f2 ∧ E.getD j 0 = (P.getD j z55).f2 + (l.getD j z46).f0)
theorem rdT_nat (P : List S55) (j : Nat) : rd_T55 P (j : Int) = P.getD j z55 := by show P.getD (j : Int).toNat _ = _; rw [Int.toNat_natCast]
theorem rdJ_nat (l : List S46) (j : Nat) : rd_T46 l (j : Int) = l.getD j z46 := by show l.getD (j : Int).toNat _ = _; rw [Int.toNat_natCast]
theorem rdI_nat (E : List Int) (j : Nat) : rd E (j : Int) = E.getD j 0 := by show E.getD (j : Int).toNat _ = _; rw [Int.toNat_natCast]
theorem lp1_l0 (l : List S46) (h8 : l.length ≤ 8) (R : Nat → Nat → Bool) (P : List S55) (E : List Int) (h : Inv l P E) (i : Nat) (hi : i < l.length) (t : Int) : ∀ d j, j + d = l.length → L (fun q => impl_listPlan_1.l0 q (i : Int) t (stOf E) l (tabN l.length R) P (l.length : Int) (j : Int)) = some (predF R E i t d j)
  | 0, j, e => by
    rw [L_shift]
    simp only [impl_listPlan_1.l0, if_neg (show ¬ ((j : Int) < (l.length : Int)) by omega), L_const, predF]
  | d + 1, j, e => by
    have hj : j < l.length := by omega
    have ih := lp1_l0 l h8 R P E h i hi t d (j + 1) (by omega)
    have c1 : (j : Int) < (l.length : Int) := by omega
    have c2 : (i : Int) < (l.length : Int) := by omega
    have hst := st_get E j (by rw [h.lE]; exact hj)
    have ho := h.ho j hj
    rw [L_shift]
    simp only [impl_listPlan_1.l0, if_pos c1, le_nat, if_true, tabN_length, tabN_row _ _ j hj, rangeRow_len, if_pos c2, row_get _ _ i hi, stOf_length, h.lE, h.lP, hst, rdT_nat, rdJ_nat, nw1 (show l.length ≤ 1000 by omega) j hj, L_ite, L_const, ih, predF]
    generalize E.getD j 0 = ej at ho
    generalize (P.getD j z55).f2 = s at ho
    generalize (l.getD j z46).f0 = u at ho
    cases hR : R j i with
    | false => simp
    | true =>
      rcases ho with ho | ⟨h0, h1, _, h2, h3⟩
      · subst ho; simp
      · have ew : wrap64 (s + u) = ej := by rw [wrap_id (by omega) (by omega)]; exact h3.symm
        rw [if_pos rfl, decide_eq_true h0, if_pos rfl, ew, Bool.not_true, Bool.false_or, Bool.true_and]
        by_cases ht : ej > t
        · rw [if_pos ht, decide_eq_false (by omega), Bool.false_and]
        · rw [if_neg ht, decide_eq_true (by omega), Bool.true_and]
theorem lp1_L (l : List S46) (h8 : l.length ≤ 8) (R : Nat → Nat → Bool) (P : List S55) (E : List Int) (h : Inv l P E) (i : Nat) (hi : i < l.length) (t : Int) : L (fun q => impl_listPlan_1.f q (i : Int) t (stOf E) l (tabN l.length R) P) = some (readyB l.length R E t (i : Int)) := by
  have h0 := lp1_l0 l h8 R P E h i hi t l.length 0 (by omega)
  have c2 : (i : Int) < (l.length : Int) := by omega
  rw [Int.natCast_zero] at h0
  simp only [impl_listPlan_1.f, le_nat, if_true, stOf_length, h.lE, if_pos c2, st_get E i (by rw [h.lE]; exact hi), L_ite, L_const, h0, readyB, Int.toNat_natCast]
  by_cases hc : 0 ≤ E.getD i 0
  · rw [decide_eq_true hc, if_pos rfl, decide_eq_false (by omega), Bool.false_and]
  · rw [decide_eq_false hc, if_neg (by decide), decide_eq_true (by omega), Bool.true_and]
theorem nx_l1 (n : Nat) (hn : n ≤ 8) (R : Nat → Nat → Bool) (E : List Int) (hE : E.length = n) (o pre r : List Int) (x : Nat) (hx : x < n) (ho : o = pre ++ (x : Int) :: r) (hol : o.length ≤ 8) (t : Int) : ∀ d j (b : Bool), j + d = n → L (fun q => spec_l7Next.l1 q (tabN n R) o E t (pre.length : Int) b (j : Int)) = if (b && predF R E x t d j) = true then some (x : Int) else L (fun q => spec_l7Next.l0 q (tabN n R) o E t ((pre ++ [(x : Int)]).length : Int))
  | 0, j, b, e => by
    have hl : o.length = pre.length + (r.length + 1) := by rw [ho]; simp
    have ew : wrap64 ((pre.length : Int) + 1) = ((pre ++ [(x : Int)]).length : Int) := wrap_mid pre (x : Int) (by omega)
    have er : rd o (pre.length : Int) = (x : Int) := by rw [ho]; exact rd_mid pre _ r
    rw [L_shift]
    simp only [spec_l7Next.l1, hE, if_neg (show ¬ ((j : Int) < (n : Int)) by omega), le_nat, if_true, if_pos (show (pre.length : Int) < (o.length : Int) by omega), er, ew, predF, Bool.and_true, L_ite, L_const]
  | d + 1, j, b, e => by
    have hl : o.length = pre.length + (r.length + 1) := by rw [ho]; simp
    have er : rd o (pre.length : Int) = (x : Int) := by rw [ho]; exact rd_mid pre _ r
    have hj : j < n := by omega
    have c1 : (j : Int) < (n : Int) := by omega
    have c2 : (pre.length : Int) < (o.length : Int) := by omega
    have c3 : (x : Int) < (n : Int) := by omega
    have ih := fun b => nx_l1 n hn R E hE o pre r x hx ho hol t d (j + 1) b (by omega)
    rw [predF, L_shift]
    simp only [spec_l7Next.l1, hE, if_pos c1, le_nat, if_true, tabN_length, if_pos c2, er, if_pos c3, tabN_row _ _ j hj, rangeRow_len, row_get _ _ x hx, rdI_nat, nw1 (show n ≤ 1000 by omega) j hj, L_ite, ih]
    by_cases hR : R j x = true
    · rw [if_pos hR, hR, Bool.not_true, Bool.false_or]
      by_cases h0 : E.getD j 0 < 0
      · rw [if_pos h0, decide_eq_false (show ¬ 0 ≤ E.getD j 0 by omega)]
        simp
      · rw [if_neg h0, decide_eq_true (show 0 ≤ E.getD j 0 by omega), Bool.true_and]
        by_cases h1 : E.getD j 0 > t
        · rw [if_pos h1, decide_eq_false (show ¬ E.getD j 0 ≤ t by omega)]
          simp
        · rw [if_neg h1, decide_eq_true (show E.getD j 0 ≤ t by omega), Bool.true_and]
    · rw [if_neg hR, Bool.eq_false_iff.2 hR]
      simp
theorem nx_l0 (n : Nat) (hn : n ≤ 8) (R : Nat → Nat → Bool) (E : List Int) (hE : E.length = n) (o : List Int) (hol : o.length ≤ 8) (hoi : ∀ x ∈ o, 0 ≤ x ∧ x < (n : Int)) (t : Int) : ∀ r pre : List Int, o = pre ++ r → L (fun q => spec_l7Next.l0 q (tabN n R) o E t (pre.length : Int)) = some (match r.find? (readyB n R E t) with | some i => i | none => -1)
  | [], pre, e => by
    rw [List.append_nil] at e
    rw [L_shift]
    simp only [spec_l7Next.l0, if_neg (show ¬ ((pre.length : Int) < (o.length : Int)) by rw [e]; omega), L_const, List.find?_nil]
  | y :: r, pre, e => by
    obtain ⟨x, rfl⟩ : ∃ x : Nat, y = (x : Int) := ⟨y.toNat, (Int.toNat_of_nonneg (hoi y (by rw [e]; simp)).1).symm⟩
    have hx : x < n := by have := (hoi (x : Int) (by rw [e]; simp)).2; omega
    have hl : o.length = pre.length + (r.length + 1) := by rw [e]; simp
    have ew : wrap64 ((pre.length : Int) + 1) = ((pre ++ [(x : Int)]).length : Int) := wrap_mid pre (x : Int) (by omega)
    have er : rd o (pre.length : Int) = (x : Int) := by rw [e]; exact rd_mid pre _ r
    have c3 : (x : Int) < (n : Int) := by omega
    have h1 := nx_l1 n hn R E hE o pre r x hx e hol t n 0 true (by omega)
    rw [Int.natCast_zero] at h1
    have ih := nx_l0 n hn R E hE o hol hoi t r (pre ++ [(x : Int)]) (by rw [e]; simp)
    rw [L_shift]
    simp only [spec_l7Next.l0, if_pos (show (pre.length : Int) < (o.length : Int) by omega), le_nat, if_true, er, hE, if_pos c3, rdI_nat, ew, L_ite, h1, ih, List.find?_cons, readyB, Int.toNat_natCast, Bool.true_and]
    by_cases h0 : E.getD x 0 ≥ 0
    · rw [if_pos h0, decide_eq_false (by omega), Bool.false_and]
    · rw [if_neg h0, decide_eq_true (by omega), Bool.true_and]
      cases predF R E x t n 0 with
      | true => rfl
      | false => rfl
theorem l7Next_L (n : Nat) (hn : n ≤ 8) (R : Nat → Nat → Bool) (E : List Int) (hE : E.length = n) (o : List Int) (hol : o.length ≤ 8) (hoi : ∀ x ∈ o, 0 ≤ x ∧ x < (n : Int)) (t : Int) : L (fun q => spec_l7Next.f q (tabN n R) o E t) = some (match o.find? (readyB n R E t) with | some i => i | none => -1) := nx_l0 n hn R E hE o hol hoi t o [] rfl
abbrev PS_ := List S55 × List Int × List Int
def stM (l : List S46) (R : Nat → Nat → Bool) (o : List Int) (t : Int) (mc : Nat) (s : PS_) : PS_ :=
  if s.2.2.getD mc 0 ≤ t then
    match o.find? (readyB l.length R s.2.1 t) with
    | some i => (s.1.set i.toNat ⟨i, (mc : Int), t⟩, s.2.1.set i.toNat (t + (l.getD i.toNat z46).f0), s.2.2.set mc (t + (l.getD i.toNat z46).f0))
    | none => s
  else s
def scanF (l : List S46) (R : Nat → Nat → Bool) (o : List Int) (t : Int) : Nat → Nat → PS_ → PS_
  | 0, _, s => s
  | d + 1, mc, s => scanF l R o t d (mc + 1) (stM l R o t mc s)
def nLeft (E : List Int) : Nat := (E.filter fun e => decide (e < 0)).length
theorem nLeft_set : ∀ (E : List Int) (i : Nat) (v : Int), i < E.length → E.getD i 0 < 0 → 0 ≤ v → nLeft (E.set i v) + 1 = nLeft E
  | [], i, v, h, _, _ => absurd h (by simp)
  | e :: E, 0, v, h, h1, h2 => by
    have h1' : e < 0 := h1
    unfold nLeft
    rw [List.set_cons_zero, List.filter_cons_of_neg (by rw [decide_eq_true_eq]; omega), List.filter_cons_of_pos (by rw [decide_eq_true_eq]; exact h1'), List.length_cons]
  | e :: E, i + 1, v, h, h1, h2 => by
    have ih := nLeft_set E i v (by simpa using h) (by simpa using h1) h2
    unfold nLeft at ih ⊢
    rw [List.set_cons_succ]
    by_cases c : e < 0
    · rw [List.filter_cons_of_pos (by rw [decide_eq_true_eq]; exact c), List.filter_cons_of_pos (by rw [decide_eq_true_eq]; exact c), List.length_cons, List.length_cons, ← ih]
    · rw [List.filter_cons_of_neg (by rw [decide_eq_true_eq]; exact c), List.filter_cons_of_neg (by rw [decide_eq_true_eq]; exact c), ih]
theorem nLeft_le (E : List Int) : nLeft E ≤ E.length := List.length_filter_le _ _
theorem nLeft_zero {E : List Int} (h : nLeft E = 0) (j : Nat) (hj : j < E.length) : 0 ≤ E.getD j 0 := by
  unfold nLeft at h
  rw [List.length_eq_zero_iff, List.filter_eq_nil_iff] at h
  have := h (E.getD j 0) (by rw [List.getD_eq_getElem?_getD, List.getElem?_eq_getElem hj]; exact List.getElem_mem _)
  rw [decide_eq_true_eq] at this
  omega
theorem nLeft_pos {E : List Int} (h : 0 < nLeft E) : ∃ j, j < E.length ∧ E.getD j 0 < 0 := by
  unfold nLeft at h
  obtain ⟨x, hx⟩ := List.exists_mem_of_length_pos h
  rw [List.mem_filter, decide_eq_true_eq] at hx
  obtain ⟨j, hj, e⟩ := List.mem_iff_getElem.1 hx.1
  refine ⟨j, hj, ?_⟩
  rw [List.getD_eq_getElem?_getD, List.getElem?_eq_getElem hj]
  show E[j] < 0
  rw [e]; exact hx.2
structure Inv2 (l : List S46) (m : Nat) (s : PS_) : Prop where
  inv : Inv l s.1 s.2.1
  lF : s.2.2.length = m
  hF : ∀ k, k < m → s.2.2.getD k 0 = 0 ∨ ∃ j, j < l.length ∧ 0 ≤ s.2.1.getD j 0 ∧ s.2.1.getD j 0 = s.2.2.getD k 0
  hb : ∀ j, j < l.length → s.2.1.getD j 0 ≤ 50 * ((l.length : Int) - (nLeft s.2.1 : Int))
theorem found {l : List S46} {R : Nat → Nat → Bool} {o E : List Int} {t i : Int} (hoi : ∀ x ∈ o, 0 ≤ x ∧ x < (l.length : Int)) (h : o.find? (readyB l.length R E t) = some i) : (0 ≤ i ∧ i < (l.length : Int)) ∧ E.getD i.toNat 0 < 0 := by
  refine ⟨hoi i (List.mem_of_find?_eq_some h), ?_⟩
  have h2 := List.find?_some h
  unfold readyB at h2
  rw [Bool.and_eq_true, decide_eq_true_eq] at h2
  exact h2.1
theorem jobF0 {l : List S46} (hg : Good l) (i : Nat) (hi : i < l.length) : 1 ≤ (l.getD i z46).f0 ∧ (l.getD i z46).f0 ≤ 50 := by
  have h := hg.2 (l.getD i z46) (by rw [List.getD_eq_getElem?_getD, List.getElem?_eq_getElem hi]; exact List.getElem_mem _)
  exact ⟨h.t0, h.t1⟩
theorem getD_setT (P : List S55) (i j : Nat) (x : S55) (h : i < P.length) : (P.set i x).getD j z55 = if i = j then x else P.getD j z55 := by
  rw [List.getD_eq_getElem?_getD, List.getD_eq_getElem?_getD, List.getElem?_set]
  by_cases e : i = j
  · subst e; simp [h]
  · simp [e]
theorem stM_inv {l : List S46} (hg : Good l) {R : Nat → Nat → Bool} {o : List Int} (hoi : ∀ x ∈ o, 0 ≤ x ∧ x < (l.length : Int)) {t : Int} (t0 : 0 ≤ t) {m mc : Nat} (hm : mc < m) {s : PS_} (h : Inv2 l m s) (ht : t ≤ 50 * ((l.length : Int) - (nLeft s.2.1 : Int))) : Inv2 l m (stM l R o t mc s) ∧ nLeft (stM l R o t mc s).2.1 ≤ nLeft s.2.1 := by
  unfold stM
  split
  · split
    · rename_i i hi
      obtain ⟨hi1, hi2⟩ := found hoi hi
      obtain ⟨a, rfl⟩ : ∃ a : Nat, i = (a : Int) := ⟨i.toNat, (Int.toNat_of_nonneg hi1.1).symm⟩
      rw [Int.toNat_natCast] at hi2 ⊢
      have ha : a < l.length := by omega
      have h8 := hg.1
      have hu := jobF0 hg a ha
      generalize hu_ : (l.getD a z46).f0 = u at hu
      have hE := h.inv.lE
      have hP := h.inv.lP
      have hn := nLeft_set s.2.1 a (t + u) (by rw [hE]; exact ha) hi2 (by omega)
      have hnl := nLeft_le s.2.1
      rw [hE] at hnl
      have em1 : s.2.1.getD a 0 = -1 := by
        rcases h.inv.ho a ha with e | e
        · exact e
        · omega
      refine ⟨⟨⟨by simpa using hP, by simpa using hE, fun j hj => ?_⟩, by simpa using h.lF, fun k hk => ?_, fun j hj => ?_⟩, ?_⟩
      · show ((s.2.1.set a (t + u)).getD j 0 = -1 ∨ _)
        rw [getD_set, getD_setT s.1 a j _ (by rw [hP]; exact ha)]
        by_cases e : a = j
        · subst e
          rw [if_pos ⟨rfl, by rw [hE]; exact ha⟩, if_pos rfl, hu_]
          exact .inr ⟨by omega, by omega, rfl, t0, rfl⟩
        · rw [if_neg (fun q => e q.1), if_neg e]
          exact h.inv.ho j hj
      · show (s.2.2.set mc (t + u)).getD k 0 = 0 ∨ ∃ j, j < l.length ∧ 0 ≤ (s.2.1.set a (t + u)).getD j 0 ∧ (s.2.1.set a (t + u)).getD j 0 = (s.2.2.set mc (t + u)).getD k 0
        rw [getD_set]
        by_cases e : mc = k
        · rw [if_pos ⟨e, by rw [h.lF]; exact hk⟩]
          refine .inr ⟨a, ha, ?_, ?_⟩
          · rw [getD_set, if_pos ⟨rfl, by rw [hE]; exact ha⟩]; omega
          · rw [getD_set, if_pos ⟨rfl, by rw [hE]; exact ha⟩]
        · rw [if_neg (fun q => e q.1)]
          rcases h.hF k hk with e2 | ⟨j, hj, h0, h1⟩
          · exact .inl e2
          · have hne : ¬ a = j := fun q => by rw [← q] at h0; omega
            refine .inr ⟨j, hj, ?_, ?_⟩
            · rw [getD_set, if_neg (fun q => hne q.1)]; exact h0
            · rw [getD_set, if_neg (fun q => hne q.1)]; exact h1
      · show (s.2.1.set a (t + u)).getD j 0 ≤ 50 * ((l.length : Int) - (nLeft (s.2.1.set a (t + u)) : Int))
        have hbj := h.hb j hj
        rw [getD_set]
        by_cases e : a = j
        · rw [if_pos ⟨e, by rw [hE]; exact hj⟩]; omega
        · rw [if_neg (fun q => e q.1)]; omega
      · show nLeft (s.2.1.set a (t + u)) ≤ _
        omega
    · exact ⟨h, Nat.le_refl _⟩
  · exact ⟨h, Nat.le_refl _⟩
theorem scan_inv {l : List S46} (hg : Good l) {R : Nat → Nat → Bool} {o : List Int} (hoi : ∀ x ∈ o, 0 ≤ x ∧ x < (l.length : Int)) {t : Int} (t0 : 0 ≤ t) {m : Nat} : ∀ (d mc : Nat) (s : PS_), mc + d = m → Inv2 l m s → t ≤ 50 * ((l.length : Int) - (nLeft s.2.1 : Int)) → Inv2 l m (scanF l R o t d mc s) ∧ nLeft (scanF l R o t d mc s).2.1 ≤ nLeft s.2.1
  | 0, mc, s, e, h, ht => ⟨h, Nat.le_refl _⟩
  | d + 1, mc, s, e, h, ht => by
    obtain ⟨h1, h2⟩ := stM_inv (R := R) hg hoi t0 (show mc < m by omega) h ht
    obtain ⟨h3, h4⟩ := scan_inv (R := R) hg hoi t0 d (mc + 1) (stM l R o t mc s) (by omega) h1 (by omega)
    exact ⟨h3, Nat.le_trans h4 h2⟩
theorem scan_none {l : List S46} {R : Nat → Nat → Bool} {o : List Int} {t : Int} {s : PS_} (h : o.find? (readyB l.length R s.2.1 t) = none) : ∀ (d mc : Nat), scanF l R o t d mc s = s
  | 0, mc => rfl
  | d + 1, mc => by
    have e : stM l R o t mc s = s := by
      unfold stM
      rw [h]
      split <;> rfl
    rw [scanF, e]
    exact scan_none h d (mc + 1)
theorem scan_busy {l : List S46} {R : Nat → Nat → Bool} {o : List Int} {t : Int} {s : PS_} {m : Nat} (h : ∀ k, k < m → ¬ s.2.2.getD k 0 ≤ t) : ∀ (d mc : Nat), mc + d = m → scanF l R o t d mc s = s
  | 0, mc, e => rfl
  | d + 1, mc, e => by
    have e2 : stM l R o t mc s = s := by
      unfold stM
      rw [if_neg (h mc (by omega))]
    rw [scanF, e2]
    exact scan_busy h d (mc + 1) (by omega)
/-- Behind a round: no machine that was looked at is idle, or no job is ready. -/
theorem scan_after {l : List S46} (hg : Good l) {R : Nat → Nat → Bool} {o : List Int} (hoi : ∀ x ∈ o, 0 ≤ x ∧ x < (l.length : Int)) {t : Int} {m : Nat} : ∀ (d mc : Nat) (s : PS_), mc + d = m → s.2.2.length = m →
    (∀ k, k < mc → (scanF l R o t d mc s).2.2.getD k 0 = s.2.2.getD k 0) ∧ ((∀ k, mc ≤ k → k < m → t < (scanF l R o t d mc s).2.2.getD k 0) ∨ o.find? (readyB l.length R (scanF l R o t d mc s).2.1 t) = none)
  | 0, mc, s, e, hl => ⟨fun _ _ => rfl, .inl fun k h1 h2 => absurd h1 (by omega)⟩
  | d + 1, mc, s, e, hl => by
    rw [scanF]
    by_cases hc : s.2.2.getD mc 0 ≤ t
    · cases hf : o.find? (readyB l.length R s.2.1 t) with
      | none =>
        have e2 : stM l R o t mc s = s := by unfold stM; rw [if_pos hc, hf]
        rw [e2, scan_none hf]
        exact ⟨fun _ _ => rfl, .inr hf⟩
      | some i =>
        obtain ⟨hi1, hi2⟩ := found hoi hf
        have hu := jobF0 hg i.toNat (by omega)
        have e2 : (stM l R o t mc s).2.2 = s.2.2.set mc (t + (l.getD i.toNat z46).f0) := by unfold stM; rw [if_pos hc, hf]
        have ih := scan_after hg (R := R) hoi (t := t) (m := m) d (mc + 1) (stM l R o t mc s) (by omega) (by rw [e2, List.length_set]; exact hl)
        refine ⟨fun k hk => ?_, ?_⟩
        · rw [ih.1 k (by omega), e2, getD_set, if_neg (fun q => absurd q.1 (by omega))]
        · rcases ih.2 with h | h
          · left
            intro k h1 h2
            by_cases e3 : k = mc
            · subst e3
              rw [ih.1 k (by omega), e2, getD_set, if_pos ⟨rfl, by omega⟩]
              omega
            · exact h k (by omega) h2
          · exact .inr h
    · have e2 : stM l R o t mc s = s := by unfold stM; rw [if_neg hc]
      rw [e2]
      have ih := scan_after hg (R := R) hoi (t := t) (m := m) d (mc + 1) s (by omega) hl
      refine ⟨fun k hk => ih.1 k (by omega), ?_⟩
      rcases ih.2 with h | h
      · left
        intro k h1 h2
        by_cases e3 : k = mc
        · subst e3; rw [ih.1 k (by omega)]; omega
        · exact h k (by omega) h2
      · exact .inr h
theorem li_l2 (l : List S46) (hg : Good l) (R : Nat → Nat → Bool) (o : List Int) (hol : o.length ≤ 8) (hoi : ∀ x ∈ o, 0 ≤ x ∧ x < (l.length : Int)) (t : Int) (t0 : 0 ≤ t) (t1 : t ≤ 1000) (m mc : Nat) (hm : mc < m) (hm8 : m ≤ 8) (P : List S55) (E F : List Int) (h : Inv l P E) (hF : F.length = m) (w : Nat) (hw : w ≤ 8) : ∀ r pre : List Int, o = pre ++ r →
    L (fun q => impl_listPlan.l2 q o l (tabN l.length R) P (stOf E) F t (w : Int) (mc : Int) (m : Int) (mc : Int) o (o.length : Int) (pre.length : Int)) =
      match r.find? (readyB l.length R E t) with
      | some i => L (fun q => impl_listPlan.l1 q o l (tabN l.length R) (P.set i.toNat ⟨i, (mc : Int), t⟩) (stOf (E.set i.toNat (t + (l.getD i.toNat z46).f0))) (F.set mc (t + (l.getD i.toNat z46).f0)) t ((w : Int) - 1) (m : Int) ((mc + 1 : Nat) : Int))
      | none => L (fun q => impl_listPlan.l1 q o l (tabN l.length R) P (stOf E) F t (w : Int) (m : Int) ((mc + 1 : Nat) : Int))
  | [], pre, e => by
    rw [List.append_nil] at e
    rw [L_shift]
    simp only [impl_listPlan.l2, if_neg (show ¬ ((pre.length : Int) < (o.length : Int)) by rw [e]; omega), List.find?_nil, nw1 (show m ≤ 1000 by omega) mc hm]
  | y :: r, pre, e => by
    obtain ⟨x, rfl⟩ : ∃ x : Nat, y = (x : Int) := ⟨y.toNat, (Int.toNat_of_nonneg (hoi y (by rw [e]; simp)).1).symm⟩
    have hx : x < l.length := by have := (hoi (x : Int) (by rw [e]; simp)).2; omega
    have hl : o.length = pre.length + (r.length + 1) := by rw [e]; simp
    have h8 := hg.1
    have ew : wrap64 ((pre.length : Int) + 1) = ((pre ++ [(x : Int)]).length : Int) := wrap_mid pre (x : Int) (by omega)
    have er : rd o (pre.length : Int) = (x : Int) := by rw [e]; exact rd_mid pre _ r
    have c1 : (pre.length : Int) < (o.length : Int) := by omega
    have c2 : (x : Int) < (l.length : Int) := by omega
    have c3 : (mc : Int) < (m : Int) := by omega
    have hu := jobF0 hg x hx
    have ih := li_l2 l hg R o hol hoi t t0 t1 m mc hm hm8 P E F h hF w hw r (pre ++ [(x : Int)]) (by rw [e]; simp)
    have hc := lp1_L l h8 R P E h x hx t
    have w1 : wrap64 (t + (l.getD x z46).f0) = t + (l.getD x z46).f0 := wrap_id (by omega) (by omega)
    have w2 : wrap64 ((w : Int) - 1) = (w : Int) - 1 := wrap_id (by omega) (by omega)
    have hst := stOf_set E x (t + (l.getD x z46).f0) (by omega)
    rw [L_shift]
    simp only [impl_listPlan.l2, if_pos c1, le_nat, if_true, er, ew, L_bind, hc, Option.bind_some, L_ite, ih, List.find?_cons]
    cases hr : readyB l.length R E t (x : Int) with
    | false => simp only [Bool.false_eq_true, if_false]
    | true => simp only [if_true, h.lP, if_pos c2, stOf_length, h.lE, hF, if_pos c3, Int.toNat_natCast, rdJ_nat, w1, w2, hst, nw1 (show m ≤ 1000 by omega) mc hm]
theorem stM_E {l : List S46} {R : Nat → Nat → Bool} {o : List Int} {t : Int} {mc : Nat} {s : PS_} (hc : s.2.2.getD mc 0 ≤ t) {i : Int} (hf : o.find? (readyB l.length R s.2.1 t) = some i) : stM l R o t mc s = (s.1.set i.toNat ⟨i, (mc : Int), t⟩, s.2.1.set i.toNat (t + (l.getD i.toNat z46).f0), s.2.2.set mc (t + (l.getD i.toNat z46).f0)) := by
  unfold stM
  rw [if_pos hc, hf]
theorem li_l1 (l : List S46) (hg : Good l) (R : Nat → Nat → Bool) (o : List Int) (hol : o.length ≤ 8) (hoi : ∀ x ∈ o, 0 ≤ x ∧ x < (l.length : Int)) (t : Int) (t0 : 0 ≤ t) (t1 : t ≤ 1000) (m : Nat) (hm8 : m ≤ 8) : ∀ (d mc : Nat) (s : PS_), mc + d = m → Inv2 l m s → t ≤ 50 * ((l.length : Int) - (nLeft s.2.1 : Int)) →
    L (fun q => impl_listPlan.l1 q o l (tabN l.length R) s.1 (stOf s.2.1) s.2.2 t (nLeft s.2.1 : Int) (m : Int) (mc : Int)) = L (fun q => impl_listPlan.l0 q o l (tabN l.length R) (scanF l R o t d mc s).1 (stOf (scanF l R o t d mc s).2.1) (scanF l R o t d mc s).2.2 (t + 1) (nLeft (scanF l R o t d mc s).2.1 : Int))
  | 0, mc, s, e, h, ht => by
    have ew : wrap64 (t + 1) = t + 1 := wrap_id (by omega) (by omega)
    rw [L_shift]
    simp only [impl_listPlan.l1, if_neg (show ¬ ((mc : Int) < (m : Int)) by omega), ew, scanF]
  | d + 1, mc, s, e, h, ht => by
    have hm : mc < m := by omega
    have h8 := hg.1
    have hnl := nLeft_le s.2.1
    rw [h.inv.lE] at hnl
    obtain ⟨h1, h2⟩ := stM_inv (R := R) hg hoi t0 hm h ht
    have ih := li_l1 l hg R o hol hoi t t0 t1 m hm8 d (mc + 1) (stM l R o t mc s) (by omega) h1 (by omega)
    have c1 : (mc : Int) < (m : Int) := by omega
    have h22 := li_l2 l hg R o hol hoi t t0 t1 m mc hm hm8 s.1 s.2.1 s.2.2 h.inv h.lF (nLeft s.2.1) (by omega) o [] rfl
    rw [List.length_nil, Int.natCast_zero] at h22
    rw [L_shift]
    simp only [impl_listPlan.l1, if_pos c1, le_nat, if_true, h.lF, rdI_nat, L_ite, h22, nw1 (show m ≤ 1000 by omega) mc hm, scanF]
    rw [← ih]
    by_cases hc : s.2.2.getD mc 0 > t
    · have e2 : stM l R o t mc s = s := by unfold stM; rw [if_neg (by omega)]
      rw [if_pos hc, e2]
    · rw [if_neg hc]
      cases hf : o.find? (readyB l.length R s.2.1 t) with
      | none =>
        have e2 : stM l R o t mc s = s := by unfold stM; rw [if_pos (by omega), hf]
        rw [e2]
      | some i =>
        obtain ⟨hi1, hi2⟩ := found hoi hf
        have hu := jobF0 hg i.toNat (by omega)
        have hn := nLeft_set s.2.1 i.toNat (t + (l.getD i.toNat z46).f0) (by rw [h.inv.lE]; omega) hi2 (by omega)
        have en : (nLeft s.2.1 : Int) - 1 = (nLeft (s.2.1.set i.toNat (t + (l.getD i.toNat z46).f0)) : Int) := by omega
        rw [stM_E (by omega) hf]
        simp only [en]
theorem ls_l2 (l : List S46) (hg : Good l) (R : Nat → Nat → Bool) (o : List Int) (hol : o.length ≤ 8) (hoi : ∀ x ∈ o, 0 ≤ x ∧ x < (l.length : Int)) (t : Int) (t0 : 0 ≤ t) (t1 : t ≤ 1000) (m : Nat) (hm8 : m ≤ 8) : ∀ (d mc : Nat) (s : PS_), mc + d = m → Inv2 l m s → t ≤ 50 * ((l.length : Int) - (nLeft s.2.1 : Int)) →
    L (fun q => spec_l7List.l2 q l (m : Int) o (tabN l.length R) s.1 s.2.1 s.2.2 t (nLeft s.2.1 : Int) (mc : Int)) = (L (fun q => spec_l7Soon.f q (scanF l R o t d mc s).2.1 t)).bind fun u => L (fun q => spec_l7List.l1 q l (m : Int) o (tabN l.length R) (scanF l R o t d mc s).1 (scanF l R o t d mc s).2.1 (scanF l R o t d mc s).2.2 u (nLeft (scanF l R o t d mc s).2.1 : Int))
  | 0, mc, s, e, h, ht => by
    rw [L_shift]
    simp only [spec_l7List.l2, if_neg (show ¬ ((mc : Int) < (m : Int)) by omega), L_bind, scanF]
  | d + 1, mc, s, e, h, ht => by
    have hm : mc < m := by omega
    have h8 := hg.1
    have hnl := nLeft_le s.2.1
    rw [h.inv.lE] at hnl
    obtain ⟨h1, h2⟩ := stM_inv (R := R) hg hoi t0 hm h ht
    have ih := ls_l2 l hg R o hol hoi t t0 t1 m hm8 d (mc + 1) (stM l R o t mc s) (by omega) h1 (by omega)
    have c1 : (mc : Int) < (m : Int) := by omega
    have hnx := l7Next_L l.length h8 R s.2.1 h.inv.lE o hol hoi t
    rw [L_shift]
    simp only [spec_l7List.l2, if_pos c1, le_nat, if_true, h.lF, rdI_nat, L_ite, L_bind, hnx, Option.bind_some, nw1 (show m ≤ 1000 by omega) mc hm, scanF, if_neg (show ¬ (-1 : Int) ≥ 0 by decide)]
    rw [← ih]
    by_cases hc : s.2.2.getD mc 0 ≤ t
    · rw [if_pos hc]
      cases hf : o.find? (readyB l.length R s.2.1 t) with
      | none =>
        have e2 : stM l R o t mc s = s := by unfold stM; rw [if_pos hc, hf]
        simp only [e2, if_neg (show ¬ (-1 : Int) ≥ 0 by decide)]
      | some i =>
        obtain ⟨hi1, hi2⟩ := found hoi hf
        obtain ⟨x, rfl⟩ : ∃ x : Nat, i = (x : Int) := ⟨i.toNat, (Int.toNat_of_nonneg hi1.1).symm⟩
        rw [stM_E hc hf]
        rw [Int.toNat_natCast] at hi2 ⊢
        have hx : x < l.length := by omega
        have hu := jobF0 hg x hx
        have hn := nLeft_set s.2.1 x (t + (l.getD x z46).f0) (by rw [h.inv.lE]; exact hx) hi2 (by omega)
        have c2 : (x : Int) < (l.length : Int) := by omega
        have c4 : (x : Int) ≥ 0 := by omega
        have w1 : wrap64 (t + (l.getD x z46).f0) = t + (l.getD x z46).f0 := wrap_id (by omega) (by omega)
        have en : wrap64 ((nLeft s.2.1 : Int) - 1) = (nLeft (s.2.1.set x (t + (l.getD x z46).f0)) : Int) := by rw [wrap_id (by omega) (by omega)]; omega
        have eg : (s.2.1.set x (t + (l.getD x z46).f0)).getD x 0 = t + (l.getD x z46).f0 := by rw [getD_set, if_pos ⟨rfl, by rw [h.inv.lE]; exact hx⟩]
        simp only [if_pos c4, le_nat, if_true, h.inv.lP, h.inv.lE, if_pos c2, Int.toNat_natCast, rdJ_nat, rdI_nat, w1, Option.bind_some, en, eg]
    · have e2 : stM l R o t mc s = s := by unfold stM; rw [if_neg hc]
      rw [if_neg hc, e2]
def soonF (t : Int) : Int → List Int → Int
  | v, [] => v
  | v, e :: r => soonF t (if e > t then (if v < 0 then e else if e < v then e else v) else v) r
theorem soon_l (E : List Int) (hE : E.length ≤ 1000) (t : Int) : ∀ (r pre : List Int) (v : Int), E = pre ++ r → L (fun q => spec_l7Soon.l0 q E t v (pre.length : Int)) = some (soonF t v r)
  | [], pre, v, e => by
    rw [List.append_nil] at e
    rw [L_shift]
    simp only [spec_l7Soon.l0, if_neg (show ¬ ((pre.length : Int) < (E.length : Int)) by rw [e]; omega), L_const, soonF]
  | x :: r, pre, v, e => by
    have hl : E.length = pre.length + (r.length + 1) := by rw [e]; simp
    have ew : wrap64 ((pre.length : Int) + 1) = ((pre ++ [x]).length : Int) := wrap_mid pre x (by omega)
    have er : rd E (pre.length : Int) = x := by rw [e]; exact rd_mid pre _ r
    have ih := fun v => soon_l E hE t r (pre ++ [x]) v (by rw [e]; simp)
    rw [L_shift]
    simp only [spec_l7Soon.l0, if_pos (show (pre.length : Int) < (E.length : Int) by omega), le_nat, if_true, er, ew, L_ite, ih, soonF]
    by_cases h1 : x > t
    · rw [if_pos h1, if_pos h1]
      by_cases h2 : v < 0
      · rw [if_pos h2, if_pos h2]
      · rw [if_neg h2, if_neg h2]
        by_cases h3 : x < v
        · rw [if_pos h3, if_pos h3]
        · rw [if_neg h3, if_neg h3]
    · rw [if_neg h1, if_neg h1]
theorem soon_L (E : List Int) (hE : E.length ≤ 1000) (t : Int) : L (fun q => spec_l7Soon.f q E t) = some (soonF t (-1) E) := soon_l E hE t E [] (-1) rfl
theorem soonF_spec (t : Int) (t0 : 0 ≤ t) : ∀ (E : List Int) (v : Int), (v < 0 ∨ t < v) → (soonF t v E < 0 → v < 0 ∧ ∀ e ∈ E, ¬ t < e) ∧ (0 ≤ soonF t v E → t < soonF t v E ∧ (soonF t v E = v ∨ soonF t v E ∈ E) ∧ (0 ≤ v → soonF t v E ≤ v) ∧ ∀ e ∈ E, t < e → soonF t v E ≤ e)
  | [], v, h => ⟨fun h1 => ⟨h1, fun e he => nomatch he⟩, fun h1 => by
      have h1' : 0 ≤ v := h1
      exact ⟨h.resolve_left (by omega), .inl rfl, fun _ => Int.le_refl _, fun e he => nomatch he⟩⟩
  | x :: r, v, h => by
    rw [soonF]
    by_cases h1 : x > t
    · rw [if_pos h1]
      by_cases h2 : v < 0
      · rw [if_pos h2]
        obtain ⟨ia, ib⟩ := soonF_spec t t0 r x (.inr h1)
        refine ⟨fun q => absurd (ia q).1 (by omega), fun q => ?_⟩
        obtain ⟨b1, b2, b3, b4⟩ := ib q
        refine ⟨b1, .inr ?_, fun q2 => absurd q2 (by omega), fun e he hte => ?_⟩
        · rcases b2 with b2 | b2
          · rw [b2]; exact List.mem_cons_self
          · exact List.mem_cons_of_mem _ b2
        · rcases List.mem_cons.1 he with rfl | he
          · exact b3 (by omega)
          · exact b4 e he hte
      · rw [if_neg h2]
        by_cases h3 : x < v
        · rw [if_pos h3]
          obtain ⟨ia, ib⟩ := soonF_spec t t0 r x (.inr h1)
          refine ⟨fun q => absurd (ia q).1 (by omega), fun q => ?_⟩
          obtain ⟨b1, b2, b3, b4⟩ := ib q
          have b3' := b3 (by omega)
          refine ⟨b1, .inr ?_, fun q2 => by omega, fun e he hte => ?_⟩
          · rcases b2 with b2 | b2
            · rw [b2]; exact List.mem_cons_self
            · exact List.mem_cons_of_mem _ b2
          · rcases List.mem_cons.1 he with rfl | he
            · exact b3'
            · exact b4 e he hte
        · rw [if_neg h3]
          obtain ⟨ia, ib⟩ := soonF_spec t t0 r v h
          refine ⟨fun q => absurd (ia q).1 h2, fun q => ?_⟩
          obtain ⟨b1, b2, b3, b4⟩ := ib q
          have b3' := b3 (by omega)
          refine ⟨b1, ?_, b3, fun e he hte => ?_⟩
          · rcases b2 with b2 | b2
            · exact .inl b2
            · exact .inr (List.mem_cons_of_mem _ b2)
          · rcases List.mem_cons.1 he with rfl | he
            · omega
            · exact b4 e he hte
    · rw [if_neg h1]
      obtain ⟨ia, ib⟩ := soonF_spec t t0 r v h
      refine ⟨fun q => ⟨(ia q).1, fun e he => ?_⟩, fun q => ?_⟩
      · rcases List.mem_cons.1 he with rfl | he
        · exact h1
        · exact (ia q).2 e he
      · obtain ⟨b1, b2, b3, b4⟩ := ib q
        refine ⟨b1, ?_, b3, fun e he hte => ?_⟩
        · rcases b2 with b2 | b2
          · exact .inl b2
          · exact .inr (List.mem_cons_of_mem _ b2)
        · rcases List.mem_cons.1 he with rfl | he
          · exact absurd hte h1
          · exact b4 e he hte
theorem filter_lt {α : Type} (p q : α → Bool) : ∀ (l : List α), (∀ x ∈ l, p x = true → q x = true) → (∃ x ∈ l, q x = true ∧ p x = false) → (l.filter p).length < (l.filter q).length
  | [], _, ⟨x, hx, _⟩ => nomatch hx
  | a :: l, h, ⟨x, hx, h1, h2⟩ => by
    have hle : (l.filter p).length ≤ (l.filter q).length := by
      clear h1 h2 hx x
      have h' : ∀ x ∈ l, p x = true → q x = true := fun x hx => h x (List.mem_cons_of_mem _ hx)
      clear h
      induction l with
      | nil => exact Nat.le_refl _
      | cons b l ih =>
        have ih' := ih (fun x hx => h' x (List.mem_cons_of_mem _ hx))
        have hb := h' b List.mem_cons_self
        cases hp : p b with
        | true => rw [List.filter_cons_of_pos hp, List.filter_cons_of_pos (hb hp), List.length_cons, List.length_cons]; omega
        | false =>
          rw [List.filter_cons_of_neg (by rw [hp]; decide)]
          cases hq : q b with
          | true => rw [List.filter_cons_of_pos hq, List.length_cons]; omega
          | false => rw [List.filter_cons_of_neg (by rw [hq]; decide)]; exact ih'
    rcases List.mem_cons.1 hx with e | hx
    · subst e
      rw [List.filter_cons_of_neg (by rw [h2]; decide), List.filter_cons_of_pos h1, List.length_cons]
      omega
    · have ih := filter_lt p q l (fun x hx => h x (List.mem_cons_of_mem _ hx)) ⟨x, hx, h1, h2⟩
      have ha := h a List.mem_cons_self
      cases hp : p a with
      | true => rw [List.filter_cons_of_pos hp, List.filter_cons_of_pos (ha hp), List.length_cons, List.length_cons]; omega
      | false =>
        rw [List.filter_cons_of_neg (by rw [hp]; decide)]
        cases hq : q a with
        | true => rw [List.filter_cons_of_pos hq, List.length_cons]; omega
        | false => rw [List.filter_cons_of_neg (by rw [hq]; decide)]; exact ih
/-- Among the jobs of a set one has none of them ahead. -/
theorem min_job (n : Nat) (R : Nat → Nat → Bool) (hirr : ∀ j, j < n → R j j = false) (htr : ∀ i m j, m < n → R i m = true → R m j = true → R i j = true) (U : Nat → Bool) : ∀ (c i : Nat), i < n → U i = true → ((List.range n).filter fun j => U j && R j i).length = c → ∃ a, a < n ∧ U a = true ∧ ∀ j, j < n → R j a = true → U j = false := by
  intro c
  induction c using Nat.strongRecOn with
  | ind c ih =>
    intro i hi hu hc
    by_cases h : ∃ j, j < n ∧ U j = true ∧ R j i = true
    · obtain ⟨j, hj, hju, hji⟩ := h
      have hlt := filter_lt (fun k => U k && R k j) (fun k => U k && R k i) (List.range n) (fun k _ hk => by
        rw [Bool.and_eq_true] at hk ⊢
        exact ⟨hk.1, htr k j i hj hk.2 hji⟩) ⟨j, List.mem_range.2 hj, by rw [hju, hji]; rfl, by rw [hirr j hj, Bool.and_false]⟩
      exact ih _ (by rw [← hc]; exact hlt) j hj hju rfl
    · refine ⟨i, hi, hu, fun j hj hji => ?_⟩
      cases hju : U j with
      | false => rfl
      | true => exact absurd ⟨j, hj, hju, hji⟩ h
theorem ready_same {n : Nat} {R : Nat → Nat → Bool} {E : List Int} {t u : Int} (htu : t ≤ u) (h : ∀ j, j < n → t < E.getD j 0 → u < E.getD j 0) (i : Int) : readyB n R E u i = readyB n R E t i := by
  unfold readyB
  congr 1
  have : predF R E i.toNat u n 0 = true ↔ predF R E i.toNat t n 0 = true := by
    rw [predF_iff, predF_iff]
    constructor
    · intro q j h1 h2 hr
      obtain ⟨q1, q2⟩ := q j h1 h2 hr
      refine ⟨q1, ?_⟩
      by_cases c : t < E.getD j 0
      · have := h j (by omega) c; omega
      · omega
    · intro q j h1 h2 hr
      obtain ⟨q1, q2⟩ := q j h1 h2 hr
      exact ⟨q1, by omega⟩
  rw [Bool.eq_iff_iff]
  exact this
theorem find_same {n : Nat} {R : Nat → Nat → Bool} {E : List Int} {t u : Int} (htu : t ≤ u) (h : ∀ j, j < n → t < E.getD j 0 → u < E.getD j 0) (o : List Int) : o.find? (readyB n R E u) = o.find? (readyB n R E t) := by
  have e : readyB n R E u = readyB n R E t := funext fun i => ready_same htu h i
  rw [e]
/-- Nothing starts between two ends. -/
theorem scan_idle {l : List S46} {R : Nat → Nat → Bool} {o : List Int} {t u : Int} {m : Nat} {s : PS_} (h : Inv2 l m s) (t0 : 0 ≤ t) (htu : t ≤ u) (hu : ∀ j, j < l.length → t < s.2.1.getD j 0 → u < s.2.1.getD j 0) (ha : (∀ k, k < m → t < s.2.2.getD k 0) ∨ o.find? (readyB l.length R s.2.1 t) = none) : scanF l R o u m 0 s = s := by
  rcases ha with ha | ha
  · refine scan_busy (m := m) (fun k hk => ?_) m 0 (by omega)
    have h1 := ha k hk
    rcases h.hF k hk with e | ⟨j, hj, _, e⟩
    · omega
    · have := hu j hj (by omega)
      omega
  · exact scan_none (by rw [find_same htu hu]; exact ha) m 0
theorem mem_getD {E : List Int} {e : Int} (h : e ∈ E) : ∃ j, j < E.length ∧ E.getD j 0 = e := by
  obtain ⟨j, hj, rfl⟩ := List.mem_iff_getElem.1 h
  exact ⟨j, hj, by rw [List.getD_eq_getElem?_getD, List.getElem?_eq_getElem hj]; rfl⟩
theorem getD_memE {E : List Int} {j : Nat} (hj : j < E.length) : E.getD j 0 ∈ E := by
  rw [List.getD_eq_getElem?_getD, List.getElem?_eq_getElem hj]
  exact List.getElem_mem _
/-- Behind a round, while jobs are left, a job ends later. -/
theorem soon_some {l : List S46} {R : Nat → Nat → Bool} (hirr : ∀ j, j < l.length → R j j = false) (htr : ∀ i m j, m < l.length → R i m = true → R m j = true → R i j = true) {o : List Int} (ho : IsOrd l.length o) {t : Int} (t0 : 0 ≤ t) {m : Nat} (hm : 0 < m) {s : PS_} (h : Inv2 l m s) (hl : 0 < nLeft s.2.1) (ha : (∀ k, k < m → t < s.2.2.getD k 0) ∨ o.find? (readyB l.length R s.2.1 t) = none) : 0 ≤ soonF t (-1) s.2.1 := by
  by_cases hs : 0 ≤ soonF t (-1) s.2.1
  · exact hs
  · obtain ⟨_, hno⟩ := (soonF_spec t t0 s.2.1 (-1) (.inl (by omega))).1 (by omega)
    exfalso
    rcases ha with ha | ha
    · have h1 := ha 0 hm
      rcases h.hF 0 hm with e | ⟨j, hj, _, e⟩
      · omega
      · exact hno _ (getD_memE (by rw [h.inv.lE]; exact hj)) (by omega)
    · obtain ⟨i, hi, hineg⟩ := nLeft_pos hl
      rw [h.inv.lE] at hi
      obtain ⟨a, hal, hau, hap⟩ := min_job l.length R hirr htr (fun j => decide (s.2.1.getD j 0 < 0)) _ i hi (decide_eq_true hineg) rfl
      rw [List.find?_eq_none] at ha
      refine ha (a : Int) (ho.mem.2 ⟨by omega, by omega⟩) ?_
      unfold readyB
      rw [Int.toNat_natCast, Bool.and_eq_true]
      refine ⟨hau, (predF_iff R s.2.1 a t l.length 0).2 fun j h1 h2 hr => ?_⟩
      have h3 := hap j (by omega) hr
      have h3' : ¬ s.2.1.getD j 0 < 0 := of_decide_eq_false h3
      have h4 := hno _ (getD_memE (j := j) (by rw [h.inv.lE]; omega))
      omega
theorem sim_idle (l : List S46) (hg : Good l) (R : Nat → Nat → Bool) (o : List Int) (hol : o.length ≤ 8) (hoi : ∀ x ∈ o, 0 ≤ x ∧ x < (l.length : Int)) (m : Nat) (hm8 : m ≤ 8) (t u : Int) (t0 : 0 ≤ t) (u1 : u ≤ 1000) (s : PS_) (h : Inv2 l m s) (hl : 0 < nLeft s.2.1) (hu : ∀ j, j < l.length → t < s.2.1.getD j 0 → u ≤ s.2.1.getD j 0) (hub : u ≤ 50 * ((l.length : Int) - (nLeft s.2.1 : Int))) (ha : (∀ k, k < m → t < s.2.2.getD k 0) ∨ o.find? (readyB l.length R s.2.1 t) = none) : ∀ (d : Nat) (v : Int), t < v → v + (d : Int) = u →
    L (fun q => impl_listPlan.l0 q o l (tabN l.length R) s.1 (stOf s.2.1) s.2.2 v (nLeft s.2.1 : Int)) = L (fun q => impl_listPlan.l0 q o l (tabN l.length R) s.1 (stOf s.2.1) s.2.2 u (nLeft s.2.1 : Int))
  | 0, v, h1, h2 => by
    have e : v = u := by omega
    rw [e]
  | d + 1, v, h1, h2 => by
    have hid := scan_idle (R := R) (o := o) (u := v) h t0 (by omega) (fun j hj hlt => by have := hu j hj hlt; omega) ha
    have h3 := li_l1 l hg R o hol hoi v (by omega) (by omega) m hm8 m 0 s (by omega) h (by omega)
    rw [hid, Int.natCast_zero] at h3
    have ih := sim_idle l hg R o hol hoi m hm8 t u t0 u1 s h hl hu hub ha d (v + 1) (by omega) (by omega)
    rw [L_shift]
    simp only [impl_listPlan.l0, if_pos (show (nLeft s.2.1 : Int) > 0 by omega), h.lF, h3, ih]
def PlanOk (l : List S46) (P : List S55) : Prop := P.length = l.length ∧ ∀ j, j < l.length → (P.getD j z55).f0 = (j : Int) ∧ 0 ≤ (P.getD j z55).f2 ∧ (P.getD j z55).f2 ≤ 1000
theorem inv_done {l : List S46} (hg : Good l) {P : List S55} {E : List Int} (h : Inv l P E) (h0 : nLeft E = 0) : PlanOk l P := by
  refine ⟨h.lP, fun j hj => ?_⟩
  have h1 := nLeft_zero h0 j (by rw [h.lE]; exact hj)
  have hu := jobF0 hg j hj
  rcases h.ho j hj with e | ⟨a, b, c, d, e⟩
  · omega
  · exact ⟨c, d, by omega⟩
theorem sim (l : List S46) (hg : Good l) (R : Nat → Nat → Bool) (hirr : ∀ j, j < l.length → R j j = false) (htr : ∀ i m j, m < l.length → R i m = true → R m j = true → R i j = true) (o : List Int) (ho : IsOrd l.length o) (m : Nat) (hm : 0 < m) (hm8 : m ≤ 8) : ∀ (M : Nat) (t : Int) (s : PS_), Inv2 l m s → 0 ≤ t → t ≤ 50 * ((l.length : Int) - (nLeft s.2.1 : Int)) → (401 - t).toNat ≤ M →
    ∃ P, L (fun q => impl_listPlan.l0 q o l (tabN l.length R) s.1 (stOf s.2.1) s.2.2 t (nLeft s.2.1 : Int)) = some P ∧ L (fun q => spec_l7List.l1 q l (m : Int) o (tabN l.length R) s.1 s.2.1 s.2.2 t (nLeft s.2.1 : Int)) = some P ∧ PlanOk l P
  | 0, t, s, h, t0, ht, hM => by
    have h8 := hg.1
    omega
  | M + 1, t, s, h, t0, ht, hM => by
    have h8 := hg.1
    have hoi := ho.2.1
    have hol : o.length ≤ 8 := by rw [ho.1]; exact h8
    have hdone : ∀ (v w : Int) (x : PS_), Inv2 l m x → nLeft x.2.1 = 0 → L (fun q => impl_listPlan.l0 q o l (tabN l.length R) x.1 (stOf x.2.1) x.2.2 v (nLeft x.2.1 : Int)) = some x.1 ∧ L (fun q => spec_l7List.l1 q l (m : Int) o (tabN l.length R) x.1 x.2.1 x.2.2 w (nLeft x.2.1 : Int)) = some x.1 := fun v w x hx h0 => by
      rw [h0, Int.natCast_zero]
      refine ⟨?_, ?_⟩
      · rw [L_shift]
        simp only [impl_listPlan.l0, gt_iff_lt, Int.lt_irrefl, if_false, L_const]
      · rw [L_shift]
        simp only [spec_l7List.l1, gt_iff_lt, Int.lt_irrefl, if_false, L_const]
    by_cases h0 : nLeft s.2.1 = 0
    · exact ⟨s.1, (hdone t t s h h0).1, (hdone t t s h h0).2, inv_done hg h.inv h0⟩
    · have hi := li_l1 l hg R o hol hoi t t0 (by omega) m hm8 m 0 s (by omega) h ht
      have hs := ls_l2 l hg R o hol hoi t t0 (by omega) m hm8 m 0 s (by omega) h ht
      obtain ⟨h1, h2⟩ := scan_inv (R := R) hg hoi t0 m 0 s (by omega) h ht
      have ha := (scan_after hg (R := R) hoi (t := t) (m := m) m 0 s (by omega) h.lF).2
      have ha' : (∀ k, k < m → t < (scanF l R o t m 0 s).2.2.getD k 0) ∨ o.find? (readyB l.length R (scanF l R o t m 0 s).2.1 t) = none := ha.imp (fun q k hk => q k (by omega) hk) id
      rw [Int.natCast_zero] at hi hs
      generalize scanF l R o t m 0 s = x at hi hs h1 h2 ha'
      rw [soon_L x.2.1 (by rw [h1.inv.lE]; omega) t, Option.bind_some] at hs
      have hA : L (fun q => impl_listPlan.l0 q o l (tabN l.length R) s.1 (stOf s.2.1) s.2.2 t (nLeft s.2.1 : Int)) = L (fun q => impl_listPlan.l0 q o l (tabN l.length R) x.1 (stOf x.2.1) x.2.2 (t + 1) (nLeft x.2.1 : Int)) := by
        rw [L_shift]
        simp only [impl_listPlan.l0, if_pos (show (nLeft s.2.1 : Int) > 0 by omega), h.lF, hi]
      have hB : L (fun q => spec_l7List.l1 q l (m : Int) o (tabN l.length R) s.1 s.2.1 s.2.2 t (nLeft s.2.1 : Int)) = L (fun q => spec_l7List.l1 q l (m : Int) o (tabN l.length R) x.1 x.2.1 x.2.2 (soonF t (-1) x.2.1) (nLeft x.2.1 : Int)) := by
        rw [L_shift]
        simp only [spec_l7List.l1, if_pos (show (nLeft s.2.1 : Int) > 0 by omega), hs]
      rw [hA, hB]
      by_cases h3 : nLeft x.2.1 = 0
      · exact ⟨x.1, (hdone (t + 1) 0 x h1 h3).1, (hdone 0 (soonF t (-1) x.2.1) x h1 h3).2, inv_done hg h1.inv h3⟩
      · have hsn := soon_some hirr htr ho t0 hm h1 (by omega) ha'
        obtain ⟨b1, b2, _, b4⟩ := (soonF_spec t t0 x.2.1 (-1) (.inl (by omega))).2 hsn
        have hb : soonF t (-1) x.2.1 ≤ 50 * ((l.length : Int) - (nLeft x.2.1 : Int)) := by
          rcases b2 with b2 | b2
          · omega
          · obtain ⟨j, hj, e⟩ := mem_getD b2
            have := h1.hb j (by rw [← h1.inv.lE]; exact hj)
            omega
        generalize soonF t (-1) x.2.1 = u at hsn b1 b4 hb
        have hid := sim_idle l hg R o hol hoi m hm8 t u t0 (by omega) x h1 (by omega) (fun j hj hlt => b4 _ (getD_memE (by rw [h1.inv.lE]; exact hj)) hlt) hb ha' (u - (t + 1)).toNat (t + 1) (by omega) (by omega)
        rw [hid]
        exact sim l hg R hirr htr o ho m hm hm8 M u x h1 hsn hb (by omega)
theorem getD_rep (n j : Nat) (v d : Int) (hj : j < n) : (List.replicate n v).getD j d = v := by simp [List.getD_eq_getElem?_getD, hj]
theorem nLeft_rep : ∀ n : Nat, nLeft (List.replicate n (-1)) = n
  | 0 => rfl
  | n + 1 => by
    have ih := nLeft_rep n
    unfold nLeft at ih ⊢
    rw [List.replicate_succ, List.filter_cons_of_pos (by decide), List.length_cons, ih]
theorem inv_start (l : List S46) (m : Nat) : Inv2 l m (List.replicate l.length z55, List.replicate l.length (-1), List.replicate m 0) :=
  ⟨⟨by simp, by simp, fun j hj => .inl (getD_rep _ _ _ _ hj)⟩, by simp, fun k hk => .inl (getD_rep _ _ _ _ hk), fun j hj => by
    show (List.replicate l.length (-1 : Int)).getD j 0 ≤ 50 * ((l.length : Int) - (nLeft (List.replicate l.length (-1)) : Int))
    rw [getD_rep _ _ _ _ hj, nLeft_rep]
    omega⟩
theorem stOf_rep (n : Nat) : stOf (List.replicate n (-1)) = List.replicate n false := by simp [stOf]
theorem ls_l0 (l : List S46) (h8 : l.length ≤ 8) (m : Nat) (hm8 : m ≤ 8) (o : List Int) (T : List (List Bool)) (P : List S55) : ∀ (d i : Nat), i + d = l.length → L (fun q => spec_l7List.l0 q l (m : Int) o (l.length : Int) T P (List.replicate i (-1) ++ List.replicate d 0) (i : Int)) = L (fun q => spec_l7List.l1 q l (m : Int) o T P (List.replicate l.length (-1)) (List.replicate m 0) 0 (l.length : Int))
  | 0, i, e => by
    have e1 : i = l.length := by omega
    rw [L_shift]
    simp only [spec_l7List.l0, if_neg (show ¬ ((l.length : Int) < (l.length : Int)) by omega), le_nat, if_true, Int.toNat_natCast, if_pos (show m ≤ 35184372088832 by omega), List.replicate_zero, List.append_nil, e1]
  | d + 1, i, e => by
    have ih := ls_l0 l h8 m hm8 o T P d (i + 1) (by omega)
    have el : (List.replicate i (-1 : Int) ++ List.replicate (d + 1) 0).length = l.length := by simp; omega
    have es2 : (List.replicate i (-1 : Int) ++ List.replicate (d + 1) 0).set i (-1) = List.replicate (i + 1) (-1) ++ List.replicate d 0 := by
      rw [List.set_append_right _ _ (by simp), List.length_replicate, Nat.sub_self, List.replicate_succ, List.set_cons_zero, List.replicate_succ', List.append_assoc]
      rfl
    rw [L_shift]
    simp only [spec_l7List.l0, if_pos (show (i : Int) < (l.length : Int) by omega), le_nat, if_true, Int.toNat_natCast, el, es2, nw1 (show l.length ≤ 1000 by omega) i (by omega)]
    exact ih
theorem listPlan_both (l : List S46) (hg : Good l) (m : Nat) (hm : 0 < m) (hm8 : m ≤ 8) (es : List S37) (hl : es.length ≤ 2000000) (he : ∀ e ∈ es, PairIn l.length e) (hirr : ∀ j, j < l.length → closR l.length es j j = false) (o : List Int) (ho : IsOrd l.length o) : ∃ P, L (fun q => impl_listPlan.f q l (m : Int) es o) = some P ∧ L (fun q => spec_l7List.f q l (m : Int) es o) = some P ∧ PlanOk l P := by
  have h8 := hg.1
  obtain ⟨P, h1, h2, h3⟩ := sim l hg (closR l.length es) hirr (fun i k j hk => closR_trans l.length es i k j hk) o ho m hm hm8 401 0 _ (inv_start l m) (by omega) (by rw [nLeft_rep]; omega) (by omega)
  have hs := ls_l0 l h8 m hm8 o (tabN l.length (closR l.length es)) (List.replicate l.length z55) l.length 0 (by omega)
  rw [List.replicate_zero, List.nil_append, Int.natCast_zero] at hs
  simp only [nLeft_rep, stOf_rep] at h1 h2
  refine ⟨P, ?_, ?_, h3⟩
  · simp only [impl_listPlan.f, L_bind, closure_L l.length (by omega) es hl he, Option.bind_some, le_nat, if_true, Int.toNat_natCast, if_pos (show l.length ≤ 11728124029610 by omega), if_pos (show l.length ≤ 281474976710656 by omega), if_pos (show m ≤ 35184372088832 by omega), h1]
  · simp only [spec_l7List.f, L_bind, l4Table_L l.length (by omega) es hl he, Option.bind_some, le_nat, if_true, Int.toNat_natCast, if_pos (show l.length ≤ 11728124029610 by omega), if_pos (show l.length ≤ 35184372088832 by omega), hs, h2]
theorem planLen_l (l : List S46) (hg : Good l) (P : List S55) (hP : PlanOk l P) : ∀ (d j : Nat) (v : Int), j + d = l.length → ∃ r, L (fun q => impl_planLength.l0 q l v P (P.length : Int) (j : Int)) = some r ∧ L (fun q => spec_l7Length.l0 q l P v (j : Int)) = some r
  | 0, j, v, e => by
    have hp := hP.1
    refine ⟨v, ?_, ?_⟩
    · rw [L_shift]
      simp only [impl_planLength.l0, if_neg (show ¬ ((j : Int) < (P.length : Int)) by omega), L_const]
    · rw [L_shift]
      simp only [spec_l7Length.l0, if_neg (show ¬ ((j : Int) < (P.length : Int)) by omega), L_const]
  | d + 1, j, v, e => by
    have hp := hP.1
    have h8 := hg.1
    have hj : j < l.length := by omega
    obtain ⟨f0, f1, f2⟩ := hP.2 j hj
    obtain ⟨r, h1, h2⟩ := planLen_l l hg P hP d (j + 1) (max v (wrap64 ((P.getD j z55).f2 + (l.getD j z46).f0))) (by omega)
    have c1 : (j : Int) < (P.length : Int) := by omega
    have c2 : (j : Int) < (l.length : Int) := by omega
    refine ⟨r, ?_, ?_⟩
    · rw [L_shift]
      simp only [impl_planLength.l0, if_pos c1, le_nat, if_true, rdT_nat, f0, if_pos c2, rdJ_nat, mx_e, nw1 (show l.length ≤ 1000 by omega) j hj, h1]
    · rw [L_shift]
      simp only [spec_l7Length.l0, if_pos c1, le_nat, if_true, rdT_nat, if_pos c2, rdJ_nat, l1Most_e, Option.bind_some, nw1 (show l.length ≤ 1000 by omega) j hj, h2]
theorem planLen_both (l : List S46) (hg : Good l) (P : List S55) (hP : PlanOk l P) : ∃ r, L (fun q => impl_planLength.f q l P) = some r ∧ L (fun q => spec_l7Length.f q l P) = some r := planLen_l l hg P hP l.length 0 0 (by omega)
/-- The length of a list plan, both sides. -/
theorem lpLen (l : List S46) (hg : Good l) (m : Nat) (hm : 0 < m) (hm8 : m ≤ 8) (es : List S37) (hl : es.length ≤ 2000000) (he : ∀ e ∈ es, PairIn l.length e) (hirr : ∀ j, j < l.length → closR l.length es j j = false) (o : List Int) (ho : IsOrd l.length o) : ∃ P r, L (fun q => impl_listPlan.f q l (m : Int) es o) = some P ∧ L (fun q => spec_l7List.f q l (m : Int) es o) = some P ∧ L (fun q => impl_planLength.f q l P) = some r ∧ L (fun q => spec_l7Length.f q l P) = some r := by
  obtain ⟨P, h1, h2, h3⟩ := listPlan_both l hg m hm hm8 es hl he hirr o ho
  obtain ⟨r, h4, h5⟩ := planLen_both l hg P h3
  exact ⟨P, r, h1, h2, h4, h5⟩
def listedB (l : List S46) (m : Int) (es : List S37) (o : List Int) : Bool := ((goodB l && plainB l) && (inB m 1 4 && precB l.length es)) && orderB l.length o
theorem ordered_L (l : List S46) (m : Int) (es : List S37) (o : List Int) (hl : l.length ≤ 1048576) (he : es.length ≤ 1048576) (ho : o.length ≤ 1048576) : L (fun q => spec_l7Ordered.f q l m es o) = some (listedB l m es o) := by
  simp only [spec_l7Ordered.f, spec_l7Good.f, bind_self, L_bind, L_ite, L_const, l2Good_L l (by omega), l3Plain_L l (by omega), l1In_e, Option.bind_some, l2Order_L l.length o hl (by omega), listedB]
  cases hg : goodB l with
  | false => simp
  | true =>
    have h8 := (goodB_iff.1 hg).1
    rw [l4Good_L l.length h8 es (by omega)]
    cases plainB l <;> cases inB m 1 4 <;> cases precB l.length es <;> simp [h8]
theorem listed_L (l : List S46) (m : Int) (es : List S37) (o : List Int) (hl : l.length ≤ 1048576) (he : es.length ≤ 1048576) (ho : o.length ≤ 1048576) : L (fun q => impl_isListed.f q l m es o) = some (listedB l m es o) := by
  simp only [impl_isListed.f, impl_isParallel.f, bind_self, L_bind, L_ite, L_const, IsPlain_L l (by omega), within_e, Option.bind_some, isOrder_L l.length o hl (by omega), listedB]
  cases hg : goodB l with
  | false => simp
  | true =>
    have h8 := (goodB_iff.1 hg).1
    rw [IsPrecedence_L l.length h8 es]
    cases plainB l <;> cases inB m 1 4 <;> cases precB l.length es <;> simp
theorem listedB_iff {l : List S46} {m : Int} {es : List S37} {o : List Int} (h : listedB l m es o = true) : Good l ∧ (1 ≤ m ∧ m ≤ 4) ∧ precB l.length es = true ∧ IsOrd l.length o := by
  simp only [listedB, Bool.and_eq_true] at h
  exact ⟨goodB_iff.1 h.1.1.1, inB_iff.1 h.1.2.1, h.1.2.2, orderB_iff.1 h.2⟩

theorem lwo_l (l : List S46) (hg : Good l) (m : Nat) (hm : 0 < m) (hm8 : m ≤ 8) (es : List S37) (hl : es.length ≤ 28) (he : ∀ e ∈ es, PairIn l.length e) (hirr : ∀ j, j < l.length → closR l.length es j j = false) (o : List Int) (ho : IsOrd l.length o) (v : Int) : ∀ (r pre : List S37), es = pre ++ r → ∃ a b ok, L (fun q => impl_LongerWithout.l0 q l (m : Int) es o v es (es.length : Int) (pre.length : Int)) = some (a, b, ok) ∧ L (fun q => spec_LongerWithout.l0 q l (m : Int) es o v (pre.length : Int)) = some (a, b, ok)
  | [], pre, e => by
    rw [List.append_nil] at e
    refine ⟨0, 0, false, ?_, ?_⟩
    · rw [L_shift]
      simp only [impl_LongerWithout.l0, if_neg (show ¬ ((pre.length : Int) < (es.length : Int)) by rw [e]; omega), L_const]
    · rw [L_shift]
      simp only [spec_LongerWithout.l0, if_neg (show ¬ ((pre.length : Int) < (es.length : Int)) by rw [e]; omega), L_const]
  | x :: r, pre, e => by
    have hl2 : es.length = pre.length + (r.length + 1) := by rw [e]; simp
    have ew : wrap64 ((pre.length : Int) + 1) = ((pre ++ [x]).length : Int) := wrap_mid pre x (by omega)
    have elx : (pre ++ [x]).length = pre.length + 1 := by simp
    have er : rd_T37 es (pre.length : Int) = x := by rw [e]; exact getD_mid pre x r _
    obtain ⟨a, b, ok, i1, i2⟩ := lwo_l l hg m hm hm8 es hl he hirr o ho v r (pre ++ [x]) (by rw [e]; simp)
    have et : es.take pre.length = pre := by rw [e]; simp
    have ed : es.drop (pre ++ [x]).length = r := by rw [e, elx]; simp
    have hsub : ∀ y ∈ pre ++ r, y ∈ es := fun y hy => by
      rw [e]
      rcases List.mem_append.1 hy with h | h
      · exact List.mem_append_left _ h
      · exact List.mem_append_right _ (List.mem_cons_of_mem _ h)
    have hlen : (pre ++ r).length ≤ 2000000 := by rw [List.length_append]; omega
    obtain ⟨P, u, a1, a2, a3, a4⟩ := lpLen l hg m hm hm8 (pre ++ r) hlen (fun y hy => he y (hsub y hy)) (fun j hj => by
      cases hc : closR l.length (pre ++ r) j j with
      | false => rfl
      | true => rw [← hirr j hj]; exact (closR_mono l.length _ es hsub j j hc).symm) o ho
    have c1 : (pre.length : Int) < (es.length : Int) := by omega
    have c2 : (pre.length : Int) ≤ (es.length : Int) := by omega
    have c3 : ((pre ++ [x]).length : Int) ≤ (es.length : Int) := by omega
    have c4 : pre.length < 8796093022208 := by omega
    have c5 : pre.length + r.length < 8796093022208 := by omega
    by_cases hv : u > v
    · refine ⟨x.f0, x.f1, true, ?_, ?_⟩
      · rw [L_shift]
        simp only [impl_LongerWithout.l0, if_pos c1, le_nat, if_true, Option.bind_some, if_pos c2, Int.toNat_natCast, et, List.length_nil, Nat.zero_add, if_pos c4, List.nil_append, ew, if_pos c3, ed, if_pos c5, L_bind, a1, a3, if_pos hv, er, L_const]
      · rw [L_shift]
        simp only [spec_LongerWithout.l0, if_pos c1, le_nat, if_true, Option.bind_some, if_pos c2, Int.toNat_natCast, et, List.length_nil, Nat.zero_add, if_pos c4, List.nil_append, ew, if_pos c3, ed, if_pos c5, L_bind, a2, a4, if_pos hv, er, L_const]
    · refine ⟨a, b, ok, ?_, ?_⟩
      · rw [L_shift]
        simp only [impl_LongerWithout.l0, if_pos c1, le_nat, if_true, Option.bind_some, if_pos c2, Int.toNat_natCast, et, List.length_nil, Nat.zero_add, if_pos c4, List.nil_append, ew, if_pos c3, ed, if_pos c5, L_bind, a1, a3, if_neg hv, i1]
      · rw [L_shift]
        simp only [spec_LongerWithout.l0, if_pos c1, le_nat, if_true, Option.bind_some, if_pos c2, Int.toNat_natCast, et, List.length_nil, Nat.zero_add, if_pos c4, List.nil_append, ew, if_pos c3, ed, if_pos c5, L_bind, a2, a4, if_neg hv, i2]
theorem LongerWithout_both (l : List S46) (m : Int) (es : List S37) (o : List Int) (hl : l.length ≤ 1048576) (he : es.length ≤ 1048576) (ho : o.length ≤ 1048576) : ∃ (a b : Int) (ok : Bool), L (fun q => spec_LongerWithout.f q l m es o) = some (a, b, ok) ∧ L (fun q => impl_LongerWithout.f q l m es o) = some (a, b, ok) := by
  simp only [spec_LongerWithout.f, impl_LongerWithout.f, L_bind, ordered_L l m es o hl he ho, listed_L l m es o hl he ho, Option.bind_some, L_ite, L_const]
  cases hs : listedB l m es o with
  | false => exact ⟨0, 0, false, by simp, by simp⟩
  | true =>
    simp only [if_true]
    obtain ⟨hg, hm, hp, hi⟩ := listedB_iff hs
    obtain ⟨p1, p2, p3⟩ := precB_iff hp
    obtain ⟨k, rfl⟩ : ∃ k : Nat, m = (k : Int) := ⟨m.toNat, (Int.toNat_of_nonneg (by omega)).symm⟩
    obtain ⟨P, r, a1, a2, a3, a4⟩ := lpLen l hg k (by omega) (by omega) es (by omega) p2 p3 o hi
    obtain ⟨a, b, ok, b1, b2⟩ := lwo_l l hg k (by omega) (by omega) es p1 p2 p3 o hi r es [] rfl
    rw [List.length_nil, Int.natCast_zero] at b1 b2
    refine ⟨a, b, ok, ?_, ?_⟩
    · simp only [L_bind, a2, a4, Option.bind_some, b2]
    · simp only [L_bind, a1, a3, Option.bind_some, b1]
theorem FnExactLongerWithout : laws_FnExactLongerWithout.Pure := by
  intro l m es o h1 _ h2 _ h3 _ _
  have e1 : maxLen = 9223372036854775807 := rfl
  refine rounds_of_L ?_
  simp only [laws_FnExactLongerWithout.f, L_ite, L_const, szJobS_e l (by omega)]
  by_cases ho : o.length ≤ 1048576
  · rw [if_neg (by omega)]
    by_cases hl : l.length ≤ 1048576
    · have hl2 : (l.map toJobP).length ≤ 1048576 := by simpa using hl
      rw [if_pos hl]
      have hd0 : 0 ≤ 1048576 - (l.length : Int) := by omega
      have hd1 : 1048576 - (l.length : Int) ≤ 1048576 := by omega
      simp only [Option.bind_some]
      rw [L_ite, if_neg (by omega), szIntA2S_e es _ (by omega) hd0 hd1]
      simp only [Option.bind_some]
      by_cases hQv : (es.length : Int) ≤ 1048576 - (l.length : Int)
      · rw [if_pos hQv, L_ite, if_neg (by omega)]
        have hQ : es.length ≤ 1048576 := by omega
        obtain ⟨a, b, ok, hs, hi⟩ := LongerWithout_both (l.map toJobP) m es o hl2 hQ ho
        (rw [L_bind, (toJobS_L l hl), Option.bind_some]; try dsimp only)
        (rw [L_bind, (toIntA2S_L es hQ), Option.bind_some]; try dsimp only)
        (rw [L_bind, (toIntS_L o ho), Option.bind_some]; try dsimp only)
        (rw [L_bind, hs, Option.bind_some]; try dsimp only)
        (rw [L_bind, (toJobS_L l hl), Option.bind_some]; try dsimp only)
        (rw [L_bind, (toIntA2S_L es hQ), Option.bind_some]; try dsimp only)
        (rw [L_bind, (toIntS_L o ho), Option.bind_some]; try dsimp only)
        (rw [L_bind, hi, Option.bind_some]; try dsimp only)
        simp only [laws_eqIntA2.f, if_true, Option.bind_some, bne_self_eq_false]
        rw [L_shift]
        simp only [laws_FnExactLongerWithout.j0, Bool.false_eq_true, if_false]
        (rw [L_bind, (toJobS_L l hl), Option.bind_some]; try dsimp only)
        (rw [L_bind, (eqJobS_L _ hl2), Option.bind_some]; try dsimp only)
        rw [L_ite, if_pos rfl]
        (rw [L_bind, (toIntA2S_L es hQ), Option.bind_some]; try dsimp only)
        (rw [L_bind, (eqIntA2S_L es hQ), Option.bind_some]; try dsimp only)
        rw [L_ite, if_pos rfl]
        (rw [L_bind, (toIntS_L o ho), Option.bind_some]; try dsimp only)
        (rw [L_bind, (eqIntS_L o ho), Option.bind_some]; try dsimp only)
        rw [L_ite, if_pos rfl]
        rw [L_const]
      · rw [if_neg hQv, L_ite, if_pos (show (-1 : Int) < 0 by decide), L_const]
    · rw [if_neg hl]
      simp only [Option.bind_some, if_pos (show (-1 : Int) < 0 by decide), L_const]
  · rw [if_pos (by omega)]

end Go.Proofs.Yteifefecoaefnaa.Pure
