/- The exchanges of SortingExchanges lead to a best order, none makes the value worse, and they are as many as there are inversions: for all codes that the jobs are drawn from. -/
import Derived.Test.YtmfmgingdepjbaaXSFnSorting
import Derived.Test.YtmfmgingdepjbaaXLim
namespace Go.Proofs.Ytmfmgingdepjbaa.Pure
open Go.RowKit Go.Proofs.YtmfmgingdepjbaaW.PrintWords Go.Proofs.YtmfmgingdepjbaaW.PrintLast Go.Proofs.YtmfmgingdepjbaaW.PrintMore Go.Proofs.Ytmfmgingdepjbaa.X Go.Proofs.Ytmfmgingdepjbaa.XRow Go.Proofs.Ytmfmgingdepjbaa.XLim
set_option linter.unusedVariables false
set_option linter.unusedSimpArgs false
instance : ∀ a0 a1 a2 a3, Mono (fun k => impl_ExchangeGain.f k a0 a1 a2 a3) := fun a0 a1 a2 a3 => ⟨⟨impl_ExchangeGain.mono a0 a1 a2 a3⟩⟩
instance : ∀ a0 a1 a2, Mono (fun k => impl_InversionsOf.f k a0 a1 a2) := fun a0 a1 a2 => ⟨⟨impl_InversionsOf.mono a0 a1 a2⟩⟩
instance : ∀ a0 a1 a2, Mono (fun k => impl_IsBestOrder.f k a0 a1 a2) := fun a0 a1 a2 => ⟨⟨impl_IsBestOrder.mono a0 a1 a2⟩⟩
instance : ∀ a0, Mono (fun k => impl_IsJobs.f k a0) := fun a0 => ⟨⟨impl_IsJobs.mono a0⟩⟩
instance : ∀ a0 a1 a2, Mono (fun k => impl_IsRuledOrder.f k a0 a1 a2) := fun a0 a1 a2 => ⟨⟨impl_IsRuledOrder.mono a0 a1 a2⟩⟩
instance : ∀ a0 a1 a2, Mono (fun k => impl_SortingExchanges.f k a0 a1 a2) := fun a0 a1 a2 => ⟨⟨impl_SortingExchanges.mono a0 a1 a2⟩⟩
instance : ∀ a0 a1, Mono (fun k => impl_areDifferent.f k a0 a1) := fun a0 a1 => ⟨⟨impl_areDifferent.mono a0 a1⟩⟩
instance : ∀ l0 a1, Mono (fun k => impl_best.f k l0 a1) := fun l0 a1 => ⟨⟨impl_best.mono l0 a1⟩⟩
instance : ∀ a0 a1, Mono (fun k => impl_endsOf.f k a0 a1) := fun a0 a1 => ⟨⟨impl_endsOf.mono a0 a1⟩⟩
instance : ∀ a0 a1 a2 a3, Mono (fun k => impl_gain.f k a0 a1 a2 a3) := fun a0 a1 a2 a3 => ⟨⟨impl_gain.mono a0 a1 a2 a3⟩⟩
instance : ∀ a0 a1, Mono (fun k => impl_has.f k a0 a1) := fun a0 a1 => ⟨⟨impl_has.mono a0 a1⟩⟩
instance : ∀ a0 a1 a2, Mono (fun k => impl_inversions.f k a0 a1 a2) := fun a0 a1 a2 => ⟨⟨impl_inversions.mono a0 a1 a2⟩⟩
instance : ∀ a0 a1, Mono (fun k => impl_isOrder.f k a0 a1) := fun a0 a1 => ⟨⟨impl_isOrder.mono a0 a1⟩⟩
instance : ∀ a0, Mono (fun k => impl_isPlain.f k a0) := fun a0 => ⟨⟨impl_isPlain.mono a0⟩⟩
instance : ∀ a0 a1, Mono (fun k => impl_isRuled.f k a0 a1) := fun a0 a1 => ⟨⟨impl_isRuled.mono a0 a1⟩⟩
instance : ∀ a0 a1 a2, Mono (fun k => impl_isRuledAndOrdered.f k a0 a1 a2) := fun a0 a1 a2 => ⟨⟨impl_isRuledAndOrdered.mono a0 a1 a2⟩⟩
instance : ∀ a0 a1, Mono (fun k => impl_isScheduled.f k a0 a1) := fun a0 a1 => ⟨⟨impl_isScheduled.mono a0 a1⟩⟩
instance : ∀ a0 a1 a2, Mono (fun k => impl_isValued.f k a0 a1 a2) := fun a0 a1 a2 => ⟨⟨impl_isValued.mono a0 a1 a2⟩⟩
instance : ∀ a0, Mono (fun k => impl_nextOrder.f k a0) := fun a0 => ⟨⟨impl_nextOrder.mono a0⟩⟩
instance : ∀ a0, Mono (fun k => impl_numbersTo.f k a0) := fun a0 => ⟨⟨impl_numbersTo.mono a0⟩⟩
instance : ∀ a0 a1 a2, Mono (fun k => impl_valueOf.f k a0 a1 a2) := fun a0 a1 a2 => ⟨⟨impl_valueOf.mono a0 a1 a2⟩⟩
instance : ∀ a0 a1 a2, Mono (fun k => impl_valueOfEnds.f k a0 a1 a2) := fun a0 a1 a2 => ⟨⟨impl_valueOfEnds.mono a0 a1 a2⟩⟩
instance : ∀ a0, Mono (fun k => laws_FnSorting.f k a0) := fun a0 => ⟨⟨laws_FnSorting.mono a0⟩⟩
instance : ∀ a0 a1, Mono (fun k => laws_vInts.f k a0 a1) := fun a0 a1 => ⟨⟨laws_vInts.mono a0 a1⟩⟩
instance : ∀ a0, Mono (fun k => spec_DrawIsRuledOrder.f k a0) := fun a0 => ⟨⟨spec_DrawIsRuledOrder.mono a0⟩⟩
instance : ∀ a0, Mono (fun k => spec_DrawSortingExchanges.f k a0) := fun a0 => ⟨⟨spec_DrawSortingExchanges.mono a0⟩⟩
instance : ∀ a0 a1 a2, Mono (fun k => spec_SortingExchanges.f k a0 a1 a2) := fun a0 a1 a2 => ⟨⟨spec_SortingExchanges.mono a0 a1 a2⟩⟩
instance : ∀ a0 a1 a2, Mono (fun k => spec_l1Cur_jobs.f k a0 a1 a2) := fun a0 a1 a2 => ⟨⟨spec_l1Cur_jobs.mono a0 a1 a2⟩⟩
instance : ∀ a0 a1 a2, Mono (fun k => spec_l1Cur_plain3.f k a0 a1 a2) := fun a0 a1 a2 => ⟨⟨spec_l1Cur_plain3.mono a0 a1 a2⟩⟩
instance : ∀ a0 a1 a2, Mono (fun k => spec_l1Cur_ruled3.f k a0 a1 a2) := fun a0 a1 a2 => ⟨⟨spec_l1Cur_ruled3.mono a0 a1 a2⟩⟩
instance : ∀ a0 a1 a2 a3 a4, Mono (fun k => spec_l1Cur_someJobs.f k a0 a1 a2 a3 a4) := fun a0 a1 a2 a3 a4 => ⟨⟨spec_l1Cur_someJobs.mono a0 a1 a2 a3 a4⟩⟩
instance : ∀ a0 a1, Mono (fun k => spec_l1Has.f k a0 a1) := fun a0 a1 => ⟨⟨spec_l1Has.mono a0 a1⟩⟩
instance : ∀ a0, Mono (fun k => spec_l2Good.f k a0) := fun a0 => ⟨⟨spec_l2Good.mono a0⟩⟩
instance : ∀ a0 a1, Mono (fun k => spec_l2Order.f k a0 a1) := fun a0 a1 => ⟨⟨spec_l2Order.mono a0 a1⟩⟩
instance : ∀ a0 a1 a2, Mono (fun k => spec_l3Both.f k a0 a1 a2) := fun a0 a1 a2 => ⟨⟨spec_l3Both.mono a0 a1 a2⟩⟩
instance : ∀ a0, Mono (fun k => spec_l3Plain.f k a0) := fun a0 => ⟨⟨spec_l3Plain.mono a0⟩⟩
instance : ∀ a0 a1, Mono (fun k => spec_l3Ruled.f k a0 a1) := fun a0 a1 => ⟨⟨spec_l3Ruled.mono a0 a1⟩⟩
instance : ∀ a0 a1 a2, Mono (fun k => spec_l3Wrong.f k a0 a1 a2) := fun a0 a1 a2 => ⟨⟨spec_l3Wrong.mono a0 a1 a2⟩⟩
theorem lt_mid {α : Type} (pre : List α) (x : α) (r : List α) : ((pre.length : Int) < ((pre ++ x :: r).length : Int)) = True := by
  simp only [List.length_append, List.length_cons]
  exact eq_true (by omega)
theorem not_lt_end {α : Type} (pre : List α) : ((pre.length : Int) < ((pre ++ []).length : Int)) = False := by
  simp
theorem le_nat (n : Nat) : (0 ≤ (n : Int)) = True := eq_true (by omega)
theorem getD_mid {α : Type} (pre : List α) (x : α) (r : List α) (d : α) : (pre ++ x :: r).getD (pre.length : Int).toNat d = x := by
  simp [List.getD_eq_getElem?_getD]
theorem rd_mid (pre : List Int) (x : Int) (r : List Int) : rd (pre ++ x :: r) (pre.length : Int) = x := getD_mid pre x r 0
theorem wrap_mid {α : Type} (pre : List α) (x : α) (h : pre.length < 4611686018427387904) : wrap64 ((pre.length : Int) + 1) = ((pre ++ [x]).length : Int) := by
  rw [wrap_id (by omega) (by omega)]
  simp
theorem set_mid {α β : Type} (a : List α) (y v : α) (b : List α) (pre : List β) (h : pre.length = a.length) : (a ++ y :: b).set (pre.length : Int).toNat v = a ++ v :: b := by
  rw [Int.toNat_natCast, h, List.set_append_right _ _ (Nat.le_refl _)]
  simp
theorem app_cons {α : Type} (pre : List α) (x : α) (r : List α) : pre ++ x :: r = (pre ++ [x]) ++ r := by simp
theorem getD_set (out : List Int) (i j : Nat) (v : Int) : (out.set i v).getD j 0 = if i = j ∧ j < out.length then v else out.getD j 0 := by
  simp only [List.getD_eq_getElem?_getD, List.getElem?_set]
  by_cases h : i = j
  · subst h
    by_cases h2 : i < out.length
    · simp [h2]
    · simp [h2]
  · simp [h]
theorem ext_getD {a b : List Int} (hl : a.length = b.length) (h : ∀ j : Nat, j < a.length → a.getD j 0 = b.getD j 0) : a = b := by
  apply List.ext_getElem hl
  intro j h1 h2
  have := h j h1
  rwa [List.getD_eq_getElem?_getD, List.getD_eq_getElem?_getD, List.getElem?_eq_getElem h1, List.getElem?_eq_getElem h2] at this
theorem getD_mem {l : List Int} {j : Nat} (hj : j < l.length) : l.getD j 0 ∈ l := by
  rw [List.getD_eq_getElem?_getD, List.getElem?_eq_getElem hj]
  exact List.getElem_mem _
theorem ite_and (b c : Bool) : (if b = true then some c else some false) = some (b && c) := by cases b <;> rfl
theorem ite_not_and (b c : Bool) : (if b = true then some false else some c) = some (!b && c) := by cases b <;> rfl
theorem bind_self {α : Type} (o : Option α) : (o.bind fun t => some t) = o := by cases o <;> rfl
def inB (a lo hi : Int) : Bool := decide (lo ≤ a) && decide (a ≤ hi)
theorem inB_iff {a lo hi : Int} : inB a lo hi = true ↔ lo ≤ a ∧ a ≤ hi := by simp [inB]
theorem within_e (a lo hi : Int) : impl_within.f a lo hi = some (inB a lo hi) := by
  unfold impl_within.f inB
  by_cases h : lo ≤ a <;> simp [h]
theorem l1In_e (a lo hi : Int) : spec_l1In.f a lo hi = some (inB a lo hi) := by
  unfold spec_l1In.f inB
  by_cases h : lo ≤ a <;> simp [h]
theorem mx_e (a b : Int) : mx a b = max a b := by
  unfold mx
  omega
theorem l1Has_l (x : Int) (r : List Int) : ∀ pre : List Int, (pre ++ r).length < 4611686018427387904 → L (fun k => spec_l1Has.l0 k (pre ++ r) x (pre.length : Int)) = some (decide (x ∈ r)) := by
  induction r with
  | nil =>
    intro pre hb
    rw [L_shift]
    simp only [spec_l1Has.l0, not_lt_end, if_false, L_const]
    simp
  | cons y r ih =>
    intro pre hb
    rw [L_shift]
    have hl : pre.length < 4611686018427387904 := by simp at hb; omega
    simp only [spec_l1Has.l0, lt_mid, le_nat, if_true, rd_mid, wrap_mid pre y hl, L_ite, L_const]
    rw [app_cons pre y r, ih (pre ++ [y]) (by simpa using hb)]
    by_cases h : y = x
    · subst h
      simp
    · rw [if_neg h]
      have : ¬ x = y := fun e => h e.symm
      simp [this]
theorem l1Has_L (l : List Int) (x : Int) (h : l.length < 4611686018427387904) : L (fun k => spec_l1Has.f k l x) = some (decide (x ∈ l)) := l1Has_l x l [] (by simpa using h)
theorem has_l (x : Int) (r : List Int) : ∀ pre : List Int, (pre ++ r).length < 4611686018427387904 → L (fun k => impl_has.l0 k x (pre ++ r) ((pre ++ r).length : Int) (pre.length : Int)) = some (decide (x ∈ r)) := by
  induction r with
  | nil =>
    intro pre hb
    rw [L_shift]
    simp only [impl_has.l0, not_lt_end, if_false, L_const]
    simp
  | cons y r ih =>
    intro pre hb
    rw [L_shift]
    have hl : pre.length < 4611686018427387904 := by simp at hb; omega
    simp only [impl_has.l0, lt_mid, le_nat, if_true, rd_mid, wrap_mid pre y hl, L_ite, L_const]
    rw [app_cons pre y r, ih (pre ++ [y]) (by simpa using hb)]
    by_cases h : y = x
    · subst h
      simp
    · rw [if_neg h]
      have : ¬ x = y := fun e => h e.symm
      simp [this]
theorem has_L (l : List Int) (x : Int) (h : l.length < 4611686018427387904) : L (fun k => impl_has.f k l x) = some (decide (x ∈ l)) := has_l x l [] (by simpa using h)
theorem perm_of : ∀ (a b : List Int), a.Nodup → (∀ x ∈ a, x ∈ b) → b.length ≤ a.length → a.Perm b
  | [], b, _, _, hl => by
    have : b = [] := List.length_eq_zero_iff.1 (by simpa using hl)
    rw [this]
  | x :: a, b, hn, hs, hl => by
    have hx : x ∈ b := hs x List.mem_cons_self
    have hn' := List.nodup_cons.1 hn
    have hp := List.perm_cons_erase hx
    have h1 : (b.erase x).length ≤ a.length := by
      have := List.length_erase_of_mem hx
      simp at hl
      omega
    have h2 : ∀ y ∈ a, y ∈ b.erase x := fun y hy => (List.mem_erase_of_ne (by rintro rfl; exact hn'.1 hy)).2 (hs y (List.mem_cons_of_mem _ hy))
    exact ((perm_of a (b.erase x) hn'.2 h2 h1).cons x).trans hp.symm
def numsTo (n : Nat) : List Int := (List.range n).map (fun i : Nat => (i : Int))
theorem numsTo_length (n : Nat) : (numsTo n).length = n := by simp [numsTo]
theorem mem_numsTo {n : Nat} {x : Int} : x ∈ numsTo n ↔ 0 ≤ x ∧ x < n := by
  simp only [numsTo, List.mem_map, List.mem_range]
  constructor
  · rintro ⟨i, hi, rfl⟩
    omega
  · intro h
    exact ⟨x.toNat, by omega, by omega⟩
theorem numsTo_nodup (n : Nat) : (numsTo n).Nodup := by
  unfold numsTo
  exact List.Pairwise.map _ (fun a b h => by omega) List.nodup_range
theorem numsTo_succ (n : Nat) : numsTo (n + 1) = numsTo n ++ [(n : Int)] := by
  unfold numsTo
  rw [List.range_succ, List.map_append]
  rfl
/-- Different numbers of n things, none of them in pre. -/
def diffB (n : Int) : List Int → List Int → Bool
  | _, [] => true
  | pre, x :: r => inB x 0 (n - 1) && (!decide (x ∈ pre) && diffB n (pre ++ [x]) r)
theorem diffB_iff (n : Int) : ∀ (r pre : List Int), diffB n pre r = true ↔ (∀ x ∈ r, 0 ≤ x ∧ x < n) ∧ r.Nodup ∧ ∀ x ∈ r, x ∉ pre
  | [], pre => by simp [diffB]
  | x :: r, pre => by
    rw [diffB, Bool.and_eq_true, Bool.and_eq_true, inB_iff, diffB_iff n r (pre ++ [x])]
    simp only [Bool.not_eq_true', decide_eq_false_iff_not, List.mem_cons, List.nodup_cons, List.mem_append, List.not_mem_nil, or_false, not_or]
    constructor
    · rintro ⟨h1, h2, h3, h4, h5⟩
      refine ⟨?_, ⟨fun hx => (h5 x hx).2 rfl, h4⟩, ?_⟩
      · rintro y (rfl | hy)
        · omega
        · exact h3 y hy
      · rintro y (rfl | hy)
        · exact h2
        · exact (h5 y hy).1
    · rintro ⟨h1, ⟨h2, h3⟩, h4⟩
      exact ⟨⟨(h1 x (.inl rfl)).1, by have := (h1 x (.inl rfl)).2; omega⟩, h4 x (.inl rfl), fun y hy => h1 y (.inr hy), h3, fun y hy => ⟨h4 y (.inr hy), fun e => h2 (e ▸ hy)⟩⟩
/-- An order of n jobs. -/
def orderB (n : Nat) (l : List Int) : Bool := decide ((l.length : Int) = n) && diffB n [] l
def IsOrd (n : Nat) (l : List Int) : Prop := l.length = n ∧ (∀ x ∈ l, 0 ≤ x ∧ x < n) ∧ l.Nodup
theorem orderB_iff {n : Nat} {l : List Int} : orderB n l = true ↔ IsOrd n l := by
  simp only [orderB, Bool.and_eq_true, decide_eq_true_eq, diffB_iff, IsOrd]
  constructor
  · rintro ⟨h, h1, h2, _⟩
    exact ⟨by omega, h1, h2⟩
  · rintro ⟨h, h1, h2⟩
    exact ⟨by omega, h1, h2, by simp⟩
theorem IsOrd.perm {n : Nat} {l : List Int} (h : IsOrd n l) : l.Perm (numsTo n) := perm_of l _ h.2.2 (fun x hx => mem_numsTo.2 (h.2.1 x hx)) (by rw [numsTo_length, h.1]; exact Nat.le_refl _)
theorem IsOrd.of_perm {n : Nat} {l : List Int} (h : l.Perm (numsTo n)) : IsOrd n l := ⟨by rw [h.length_eq, numsTo_length], fun x hx => mem_numsTo.1 (h.mem_iff.1 hx), h.nodup_iff.2 (numsTo_nodup n)⟩
theorem IsOrd.mem {n : Nat} {l : List Int} (h : IsOrd n l) {x : Int} : x ∈ l ↔ 0 ≤ x ∧ x < n := by rw [h.perm.mem_iff, mem_numsTo]
theorem isOrd_all {n : Nat} {l : List Int} (hl : l.length = n) (h : ∀ j : Nat, j < n → (j : Int) ∈ l) : IsOrd n l :=
  IsOrd.of_perm (perm_of _ l (numsTo_nodup n) (fun x hx => by
    obtain ⟨h0, h1⟩ := mem_numsTo.1 hx
    have := h x.toNat (by omega)
    rwa [Int.toNat_of_nonneg h0] at this) (by rw [numsTo_length, hl]; exact Nat.le_refl _)).symm
theorem l2Order_l (n : Nat) (l : List Int) (hn : n ≤ 1048576) (hl : l.length < 4611686018427387904) : ∀ (d i : Nat), i + d = n → L (fun k => spec_l2Order.l0 k (n : Int) l (i : Int)) = some (decide (∀ j : Nat, j < n → i ≤ j → (j : Int) ∈ l))
  | 0, i, hi => by
    rw [L_shift]
    simp only [spec_l2Order.l0, if_neg (show ¬ ((i : Int) < (n : Int)) by omega), L_const]
    congr 1
    symm
    rw [decide_eq_true_eq]
    intro j h1 h2
    omega
  | d + 1, i, hi => by
    rw [L_shift]
    have e : wrap64 ((i : Int) + 1) = ((i + 1 : Nat) : Int) := by
      rw [wrap_id (by omega) (by omega)]
      omega
    simp only [spec_l2Order.l0, if_pos (show ((i : Int) < (n : Int)) by omega), L_bind, l1Has_L l _ hl, Option.bind_some, e, L_ite, L_const]
    rw [l2Order_l n l hn hl d (i + 1) (by omega), ite_and]
    congr 1
    rw [← Bool.decide_and]
    apply decide_eq_decide.2
    constructor
    · rintro ⟨h1, h2⟩ j h4 h3
      rcases Nat.eq_or_lt_of_le h3 with rfl | h5
      · exact h1
      · exact h2 j h4 h5
    · intro h
      exact ⟨h i (by omega) (Nat.le_refl _), fun j h4 h3 => h j h4 (by omega)⟩
theorem l2Order_L (n : Nat) (l : List Int) (hn : n ≤ 1048576) (hl : l.length < 4611686018427387904) : L (fun k => spec_l2Order.f k (n : Int) l) = some (decide (n ≤ 8) && orderB n l) := by
  have hj : ∀ b : Bool, L (fun k => spec_l2Order.j0 k (n : Int) l b) = some (!b && decide (∀ j : Nat, j < n → (j : Int) ∈ l)) := by
    intro b
    rw [L_shift]
    simp only [spec_l2Order.j0, L_ite, L_const]
    rw [show ((0 : Int)) = ((0 : Nat) : Int) from rfl]
    rw [l2Order_l n l hn hl n 0 (by omega), ite_not_and]
    simp
  simp only [spec_l2Order.f, l1In_e, Option.bind_some, L_ite, hj]
  by_cases h8 : n ≤ 8
  · rw [if_pos (by rw [inB_iff]; omega)]
    simp only [h8, decide_true, Bool.true_and]
    congr 1
    by_cases hl2 : l.length = n
    · have e : ((l.length : Int) != (n : Int)) = false := by rw [hl2]; simp
      rw [e]
      simp only [Bool.not_false, Bool.true_and]
      by_cases h : ∀ j : Nat, j < n → (j : Int) ∈ l
      · rw [decide_eq_true h, orderB_iff.2 (isOrd_all hl2 h)]
      · rw [decide_eq_false h]
        symm
        rw [Bool.eq_false_iff]
        intro ho
        exact h (fun j hj => (orderB_iff.1 ho).mem.2 (by omega))
    · have e : ((l.length : Int) != (n : Int)) = true := by simp; omega
      rw [e]
      simp only [Bool.not_true, Bool.false_and]
      symm
      rw [Bool.eq_false_iff]
      intro ho
      exact hl2 (orderB_iff.1 ho).1
  · rw [if_neg (by rw [inB_iff]; omega)]
    simp [h8]
theorem isNumber_e (a n : Int) (h0 : -9223372036854775807 ≤ n) (h1 : n ≤ 9223372036854775807) : impl_isNumber.f a n = some (inB a 0 (n - 1)) := by
  simp only [impl_isNumber.f, within_e, Option.bind_some]
  rw [wrap_id (by omega) (by omega)]
theorem take_mid {α : Type} (pre : List α) (r : List α) : (pre ++ r).take (pre.length : Int).toNat = pre := by simp
theorem areDifferent_l (n : Nat) (hn : n ≤ 1048576) (r : List Int) : ∀ pre : List Int, (pre ++ r).length < 4611686018427387904 → L (fun k => impl_areDifferent.l0 k (n : Int) (pre ++ r) (pre ++ r) ((pre ++ r).length : Int) (pre.length : Int)) = some (diffB n pre r) := by
  induction r with
  | nil =>
    intro pre hb
    rw [L_shift]
    simp only [impl_areDifferent.l0, not_lt_end, if_false, L_const]
    simp [diffB]
  | cons x r ih =>
    intro pre hb
    rw [L_shift]
    have hl : pre.length < 4611686018427387904 := by simp at hb; omega
    have e : ((pre.length : Int) ≤ ((pre ++ x :: r).length : Int)) = True := eq_true (by simp; omega)
    simp only [impl_areDifferent.l0, lt_mid, le_nat, if_true, rd_mid, wrap_mid pre x hl, isNumber_e x (n : Int) (by omega) (by omega), Option.bind_some, e, take_mid, L_ite, L_bind, has_L pre x hl, L_const]
    rw [app_cons pre x r, ih (pre ++ [x]) (by simpa using hb), ite_not_and, ite_and]
    rfl
theorem areDifferent_L (n : Nat) (l : List Int) (hn : n ≤ 1048576) (hl : l.length < 4611686018427387904) : L (fun k => impl_areDifferent.f k (n : Int) l) = some (diffB n [] l) := areDifferent_l n hn l [] (by simpa using hl)
theorem isOrder_L (n : Nat) (l : List Int) (hn : n ≤ 1048576) (hl : l.length < 4611686018427387904) : L (fun k => impl_isOrder.f k (n : Int) l) = some (orderB n l) := by
  simp only [impl_isOrder.f, bind_self, L_ite, areDifferent_L n l hn hl, L_const, orderB]
  by_cases h : (l.length : Int) = n <;> simp [h]
def jobB (j : S42) : Bool := inB j.f0 1 50 && (inB j.f1 0 50 && (inB j.f2 0 500 && inB j.f3 0 500))
def goodB (l : List S42) : Bool := l.all jobB && decide ((l.length : Int) ≤ 8)
structure JobOk (j : S42) : Prop where
  t0 : 1 ≤ j.f0
  t1 : j.f0 ≤ 50
  w0 : 0 ≤ j.f1
  w1 : j.f1 ≤ 50
  r0 : 0 ≤ j.f2
  r1 : j.f2 ≤ 500
  d0 : 0 ≤ j.f3
  d1 : j.f3 ≤ 500
def Good (l : List S42) : Prop := l.length ≤ 8 ∧ ∀ j ∈ l, JobOk j
theorem goodB_iff {l : List S42} : goodB l = true ↔ Good l := by
  simp only [goodB, Good, Bool.and_eq_true, List.all_eq_true, decide_eq_true_eq, jobB, inB_iff]
  constructor
  · rintro ⟨h, hl⟩
    exact ⟨by omega, fun j hj => by
      obtain ⟨⟨a, b⟩, ⟨c, d⟩, ⟨e, f⟩, g, i⟩ := h j hj
      exact ⟨a, b, c, d, e, f, g, i⟩⟩
  · rintro ⟨hl, h⟩
    exact ⟨fun j hj => ⟨⟨(h j hj).t0, (h j hj).t1⟩, ⟨(h j hj).w0, (h j hj).w1⟩, ⟨(h j hj).r0, (h j hj).r1⟩, (h j hj).d0, (h j hj).d1⟩, by omega⟩
theorem l2Job_e (j : S42) : spec_l2Job.f j.f0 j.f1 j.f2 j.f3 = some (jobB j) := by
  simp only [spec_l2Job.f, l1In_e, Option.bind_some, ite_and, jobB]
theorem l2Good_l (r : List S42) : ∀ pre : List S42, (pre ++ r).length < 4611686018427387904 → L (fun k => spec_l2Good.l0 k (pre ++ r) (pre.length : Int)) = some (r.all jobB && decide (((pre ++ r).length : Int) ≤ 8)) := by
  induction r with
  | nil =>
    intro pre hb
    rw [L_shift]
    simp only [spec_l2Good.l0, not_lt_end, if_false, L_const]
    simp
  | cons x r ih =>
    intro pre hb
    rw [L_shift]
    have hl : pre.length < 4611686018427387904 := by simp at hb; omega
    have e : rd_T42 (pre ++ x :: r) (pre.length : Int) = x := getD_mid pre x r _
    simp only [spec_l2Good.l0, lt_mid, le_nat, if_true, e, wrap_mid pre x hl, l2Job_e, Option.bind_some, L_ite, L_const]
    rw [app_cons pre x r, ih (pre ++ [x]) (by simpa using hb), ite_and]
    rw [List.all_cons, Bool.and_assoc]
theorem l2Good_L (l : List S42) (h : l.length < 4611686018427387904) : L (fun k => spec_l2Good.f k l) = some (goodB l) := by
  have := l2Good_l l [] (by simpa using h)
  simpa [goodB, spec_l2Good.f] using this
theorem isDate_e (n : Int) : impl_isDate.f n = some (inB n 0 500) := by
  simp only [impl_isDate.f, within_e, Option.bind_some]
theorem IsJobs_l (r : List S42) : ∀ pre : List S42, (pre ++ r).length < 4611686018427387904 → L (fun k => impl_IsJobs.l0 k (pre ++ r) ((pre ++ r).length : Int) (pre.length : Int)) = some (r.all jobB) := by
  induction r with
  | nil =>
    intro pre hb
    rw [L_shift]
    simp only [impl_IsJobs.l0, not_lt_end, if_false, L_const]
    simp
  | cons x r ih =>
    intro pre hb
    rw [L_shift]
    have hl : pre.length < 4611686018427387904 := by simp at hb; omega
    have e : rd_T42 (pre ++ x :: r) (pre.length : Int) = x := getD_mid pre x r _
    simp only [impl_IsJobs.l0, lt_mid, le_nat, if_true, e, wrap_mid pre x hl, within_e, isDate_e, Option.bind_some, L_ite, L_const]
    rw [app_cons pre x r, ih (pre ++ [x]) (by simpa using hb)]
    simp only [ite_and, List.all_cons, jobB, Bool.and_assoc]
theorem IsJobs_L (l : List S42) (h : l.length < 4611686018427387904) : L (fun k => impl_IsJobs.f k l) = some (goodB l) := by
  have := IsJobs_l l [] (by simpa using h)
  simp only [List.nil_append, List.length_nil, Int.natCast_zero] at this
  simp only [impl_IsJobs.f, L_ite, L_const, this, goodB]
  by_cases h8 : (l.length : Int) ≤ 8
  · rw [if_neg (by omega)]
    simp [h8]
  · rw [if_pos (by omega)]
    simp [h8]
/-- Jobs and an order of them. -/
def schedB (l : List S42) (o : List Int) : Bool := goodB l && orderB l.length o
theorem isScheduled_L (l : List S42) (o : List Int) (h : l.length ≤ 1048576) (ho : o.length ≤ 1048576) : L (fun k => impl_isScheduled.f k l o) = some (schedB l o) := by
  simp only [impl_isScheduled.f, bind_self, L_bind, L_ite, L_const, IsJobs_L l (by omega), Option.bind_some, isOrder_L l.length o h (by omega), ite_and, schedB]
theorem schedB_iff {l : List S42} {o : List Int} : schedB l o = true ↔ Good l ∧ IsOrd l.length o := by
  rw [schedB, Bool.and_eq_true, goodB_iff, orderB_iff]
def jobAt (l : List S42) (x : Int) : S42 := l.getD x.toNat z42
theorem jobAt_mem {l : List S42} {x : Int} (h0 : 0 ≤ x) (h1 : x < l.length) : jobAt l x ∈ l := by
  unfold jobAt
  rw [List.getD_eq_getElem?_getD, List.getElem?_eq_getElem (by omega)]
  exact List.getElem_mem _
/-- The ends, put into out by the jobs' numbers. -/
def endsF (l : List S42) : List Int → List Int → Int → List Int
  | [], out, _ => out
  | x :: r, out, now => endsF l r (out.set x.toNat (max now (jobAt l x).f2 + (jobAt l x).f0)) (max now (jobAt l x).f2 + (jobAt l x).f0)
def startsF (l : List S42) : List Int → List Int → Int → List Int
  | [], out, _ => out
  | x :: r, out, now => startsF l r (out.set x.toNat (max now (jobAt l x).f2)) (max now (jobAt l x).f2 + (jobAt l x).f0)
def endsP (l : List S42) (o : List Int) : List Int := endsF l o (List.replicate l.length 0) 0
def startsP (l : List S42) (o : List Int) : List Int := startsF l o (List.replicate l.length 0) 0
theorem endsF_length (l : List S42) : ∀ (o out : List Int) (now : Int), (endsF l o out now).length = out.length
  | [], out, now => rfl
  | x :: r, out, now => by rw [endsF, endsF_length l r, List.length_set]
theorem endsP_length (l : List S42) (o : List Int) : (endsP l o).length = l.length := by rw [endsP, endsF_length, List.length_replicate]
theorem ends_bounds (l : List S42) (hg : Good l) : ∀ (o E : List Int) (now : Int), 0 ≤ now → now ≤ 500 + 50 * (8 - o.length : Int) → o.length ≤ 8 → (∀ x ∈ o, 0 ≤ x ∧ x < (l.length : Int)) → (∀ v ∈ E, 0 ≤ v ∧ v ≤ 900) → ∀ v ∈ endsF l o E now, 0 ≤ v ∧ v ≤ 900
  | [], E, now, _, _, _, _, hE => hE
  | x :: r, E, now, h0, h1, hl, hx, hE => by
    rw [endsF]
    have hx0 := hx x List.mem_cons_self
    have hj := hg.2 _ (jobAt_mem hx0.1 hx0.2)
    have a0 := hj.t0
    have a1 := hj.t1
    have a2 := hj.r0
    have a3 := hj.r1
    simp only [List.length_cons] at h1 hl
    refine ends_bounds l hg r _ _ (by omega) (by omega) (by omega) (fun y hy => hx y (List.mem_cons_of_mem _ hy)) (fun v hv => ?_)
    rcases List.mem_or_eq_of_mem_set hv with h | h
    · exact hE v h
    · rw [h]
      omega
theorem endsP_bounds {l : List S42} {o : List Int} (hg : Good l) (ho : IsOrd l.length o) : ∀ v ∈ endsP l o, 0 ≤ v ∧ v ≤ 900 :=
  ends_bounds l hg o _ 0 (by omega) (by have := ho.1; have := hg.1; omega) (by have := ho.1; have := hg.1; omega) ho.2.1 (fun v hv => by rw [(List.mem_replicate.1 hv).2]; omega)
theorem endsOf_l (l : List S42) (hg : Good l) (r : List Int) (hx : ∀ x ∈ r, 0 ≤ x ∧ x < (l.length : Int)) : ∀ (pre E : List Int) (now : Int), (pre ++ r).length < 4611686018427387904 → E.length = l.length → 0 ≤ now → now + 50 * r.length ≤ 900 → r.length ≤ 8 →
    L (fun k => impl_endsOf.l0 k l E now (pre ++ r) ((pre ++ r).length : Int) (pre.length : Int)) = some (endsF l r E now) := by
  induction r with
  | nil =>
    intro pre E now hb _ _ _ _
    rw [L_shift]
    simp only [impl_endsOf.l0, not_lt_end, if_false, L_const, endsF]
  | cons x r ih =>
    intro pre E now hb hE h0 h1 h2
    rw [L_shift]
    have hl : pre.length < 4611686018427387904 := by simp at hb; omega
    have hx0 := hx x List.mem_cons_self
    have hj := hg.2 _ (jobAt_mem hx0.1 hx0.2)
    have a0 := hj.t0
    have a1 := hj.t1
    have a2 := hj.r0
    have a3 := hj.r1
    simp only [List.length_cons] at h1 h2
    have e : rd_T42 l x = jobAt l x := rfl
    simp only [impl_endsOf.l0, lt_mid, le_nat, if_true, rd_mid, wrap_mid pre x hl, e, mx_e, if_pos hx0.1, if_pos hx0.2, if_pos (show x < (E.length : Int) by omega), wrap_id (show -9223372036854775808 ≤ max now (jobAt l x).f2 + (jobAt l x).f0 by omega) (show max now (jobAt l x).f2 + (jobAt l x).f0 ≤ 9223372036854775807 by omega)]
    rw [app_cons pre x r, endsF]
    exact ih (fun y hy => hx y (List.mem_cons_of_mem _ hy)) (pre ++ [x]) _ _ (by simpa using hb) (by rw [List.length_set, hE]) (by omega) (by omega) (by omega)
theorem endsOf_L (l : List S42) (o : List Int) (hg : Good l) (ho : IsOrd l.length o) : L (fun k => impl_endsOf.f k l o) = some (endsP l o) := by
  have h8 := hg.1
  have hl := ho.1
  simp only [impl_endsOf.f, le_nat, if_true, Int.toNat_natCast, if_pos (show l.length ≤ 35184372088832 by omega)]
  exact endsOf_l l hg o ho.2.1 [] _ 0 (by simp; omega) (by simp) (by omega) (by omega) (by omega)
def maxTo (v : Int) (l : List Int) : Int := l.foldl max v
theorem mul_bd {w e : Int} (w0 : 0 ≤ w) (w1 : w ≤ 50) (e0 : 0 ≤ e) (e1 : e ≤ 2000) : 0 ≤ w * e ∧ w * e ≤ 100000 := by
  have h1 : w * e ≤ 50 * e := Int.mul_le_mul_of_nonneg_right w1 e0
  have h2 : 0 ≤ w * e := Int.mul_nonneg w0 e0
  omega
/-- What a job with an end adds to a value. -/
def addF (v : Int) (j : S42) (e obj : Int) (first : Bool) : Int :=
  if obj = 1 then max v e else if obj = 2 then v + e else if obj = 3 then v + j.f1 * e else if obj = 4 then (if first = true then e - j.f3 else max v (e - j.f3))
  else if obj = 5 then v + max 0 (e - j.f3) else if obj = 6 then v + j.f1 * max 0 (e - j.f3) else if e - j.f3 ≤ 0 then v else if obj = 7 then v + 1 else v + j.f1
theorem addF_bd (v : Int) (j : S42) (e obj : Int) (first : Bool) (hj : JobOk j) (he0 : 0 ≤ e) (he1 : e ≤ 2000) {B : Int} (hB : 0 ≤ B) (hv0 : -B ≤ v) (hv1 : v ≤ B) : -(B + 100000) ≤ addF v j e obj first ∧ addF v j e obj first ≤ B + 100000 := by
  have a2 := hj.d0
  have a3 := hj.d1
  have m1 := mul_bd hj.w0 hj.w1 he0 he1
  have m2 := mul_bd hj.w0 hj.w1 (show 0 ≤ max 0 (e - j.f3) by omega) (by omega)
  have w0 := hj.w0
  have w1 := hj.w1
  unfold addF
  repeat' split
  all_goals omega
theorem add_e (v : Int) (j : S42) (e obj : Int) (first : Bool) (hj : JobOk j) (he0 : 0 ≤ e) (he1 : e ≤ 2000) (hv0 : -1000000000 ≤ v) (hv1 : v ≤ 1000000000) : impl_add.f v j.f0 j.f1 j.f2 j.f3 e obj first = some (addF v j e obj first) := by
  have a2 := hj.d0
  have a3 := hj.d1
  have m1 := mul_bd hj.w0 hj.w1 he0 he1
  have m2 := mul_bd hj.w0 hj.w1 (show 0 ≤ max 0 (e - j.f3) by omega) (by omega)
  have w0 := hj.w0
  have w1 := hj.w1
  unfold impl_add.f addF
  simp only [mx_e]
  rw [wrap_id (show -9223372036854775808 ≤ e - j.f3 by omega) (by omega), wrap_id (show -9223372036854775808 ≤ v + e by omega) (by omega), wrap_id (show -9223372036854775808 ≤ j.f1 * e by omega) (by omega), wrap_id (show -9223372036854775808 ≤ v + j.f1 * e by omega) (by omega), wrap_id (show -9223372036854775808 ≤ v + max 0 (e - j.f3) by omega) (by omega), wrap_id (show -9223372036854775808 ≤ j.f1 * max 0 (e - j.f3) by omega) (by omega), wrap_id (show -9223372036854775808 ≤ v + j.f1 * max 0 (e - j.f3) by omega) (by omega), wrap_id (show -9223372036854775808 ≤ v + 1 by omega) (by omega), wrap_id (show -9223372036854775808 ≤ v + j.f1 by omega) (by omega)]
  repeat' split
  all_goals first | rfl | contradiction
/-- The value of an objective for ends. -/
def valF (obj : Int) : Int → Bool → List S42 → List Int → Int
  | v, _, [], _ => v
  | v, _, _, [] => v
  | v, first, j :: js, e :: es => valF obj (addF v j e obj first) false js es
def valP (obj : Int) (l : List S42) (es : List Int) : Int := valF obj 0 true l es
theorem valF_one : ∀ (l : List S42) (es : List Int) (v : Int) (b : Bool), es.length = l.length → valF 1 v b l es = maxTo v es
  | [], [], v, b, _ => rfl
  | x :: l, y :: es, v, b, h => by
    rw [valF, valF_one l es _ _ (by simpa using h)]
    rfl
theorem valueOfEnds_l (obj : Int) (r : List S42) (hr : ∀ j ∈ r, JobOk j) : ∀ (pre : List S42) (pe es : List Int) (v : Int), (pre ++ r).length < 4611686018427387904 → pe.length = pre.length → es.length = r.length → (∀ e ∈ es, 0 ≤ e ∧ e ≤ 2000) → -(100000 * (1000 - r.length : Int)) ≤ v → v ≤ 100000 * (1000 - r.length : Int) → r.length ≤ 100 →
    L (fun k => impl_valueOfEnds.l0 k (pe ++ es) obj v (pre ++ r) ((pre ++ r).length : Int) (pre.length : Int)) = some (valF obj v (decide (pre.length = 0)) r es) := by
  induction r with
  | nil =>
    intro pre pe es v hb hpe hes _ _ _ _
    rw [L_shift]
    simp only [impl_valueOfEnds.l0, not_lt_end, if_false, L_const, valF]
  | cons x r ih =>
    intro pre pe es v hb hpe hes he h0 h1 h2
    match es, hes with
    | y :: es, hes =>
      rw [L_shift]
      have hl : pre.length < 4611686018427387904 := by simp at hb; omega
      have e : rd_T42 (pre ++ x :: r) (pre.length : Int) = x := getD_mid pre x r _
      have e1 : rd (pe ++ y :: es) (pre.length : Int) = y := by rw [← hpe]; exact rd_mid pe y es
      have e2 : ((pre.length : Int) < ((pe ++ y :: es).length : Int)) = True := by rw [← hpe]; exact lt_mid pe y es
      have e3 : ((pre.length : Int) == 0) = decide (pre.length = 0) := by
        by_cases h : pre.length = 0
        · rw [h]; rfl
        · rw [decide_eq_false h]
          simp
          exact fun e => h (by rw [e]; rfl)
      have hx := hr x List.mem_cons_self
      have hy := he y List.mem_cons_self
      simp only [List.length_cons] at h0 h1 h2 hes
      have hbd := addF_bd v x y obj (decide (pre.length = 0)) hx hy.1 hy.2 (B := 100000 * (1000 - (r.length + 1 : Nat) : Int)) (by omega) (by omega) (by omega)
      simp only [impl_valueOfEnds.l0, lt_mid, le_nat, if_true, e, e1, e2, e3, wrap_mid pre x hl, add_e v x y obj _ hx hy.1 hy.2 (by omega) (by omega), Option.bind_some]
      rw [app_cons pre x r, app_cons pe y es, ih (fun j hj => hr j (List.mem_cons_of_mem _ hj)) (pre ++ [x]) (pe ++ [y]) es _ (by simpa using hb) (by simp [hpe]) (by omega) (fun e he' => he e (List.mem_cons_of_mem _ he')) (by omega) (by omega) (by omega), valF]
      simp
theorem valueOfEnds_L (l : List S42) (hg : Good l) (es : List Int) (hes : es.length = l.length) (he : ∀ e ∈ es, 0 ≤ e ∧ e ≤ 2000) (obj : Int) : L (fun k => impl_valueOfEnds.f k l es obj) = some (valP obj l es) := by
  have h8 := hg.1
  have := valueOfEnds_l obj l hg.2 [] [] es 0 (by simp; omega) rfl hes he (by omega) (by omega) (by omega)
  simpa [impl_valueOfEnds.f, valP] using this
theorem valueOf_L (l : List S42) (o : List Int) (hg : Good l) (ho : IsOrd l.length o) (obj : Int) : L (fun k => impl_valueOf.f k l o obj) = some (valP obj l (endsP l o)) := by
  simp only [impl_valueOf.f, bind_self, L_bind, endsOf_L l o hg ho, Option.bind_some]
  exact valueOfEnds_L l hg _ (endsP_length l o) (fun e he => by have := endsP_bounds hg ho e he; omega) obj
def plainB (l : List S42) : Bool := l.all (fun j => decide (j.f2 = 0))
theorem plainB_iff {l : List S42} : plainB l = true ↔ ∀ j ∈ l, j.f2 = 0 := by simp [plainB]
theorem isPlain_l (r : List S42) : ∀ pre : List S42, (pre ++ r).length < 4611686018427387904 → L (fun k => impl_isPlain.l0 k (pre ++ r) ((pre ++ r).length : Int) (pre.length : Int)) = some (plainB r) := by
  induction r with
  | nil =>
    intro pre hb
    rw [L_shift]
    simp only [impl_isPlain.l0, not_lt_end, if_false, L_const]
    rfl
  | cons x r ih =>
    intro pre hb
    rw [L_shift]
    have hl : pre.length < 4611686018427387904 := by simp at hb; omega
    have e : rd_T42 (pre ++ x :: r) (pre.length : Int) = x := getD_mid pre x r _
    simp only [impl_isPlain.l0, lt_mid, le_nat, if_true, e, wrap_mid pre x hl, L_ite, L_const]
    rw [app_cons pre x r, ih (pre ++ [x]) (by simpa using hb)]
    by_cases h : x.f2 = 0 <;> simp [h, plainB]
theorem isPlain_L (l : List S42) (h : l.length < 4611686018427387904) : L (fun k => impl_isPlain.f k l) = some (plainB l) := by
  have := isPlain_l l [] (by simpa using h)
  simpa [impl_isPlain.f] using this
theorem l3Plain_l (r : List S42) : ∀ pre : List S42, (pre ++ r).length < 4611686018427387904 → L (fun k => spec_l3Plain.l0 k (pre ++ r) (pre.length : Int)) = some (plainB r) := by
  induction r with
  | nil =>
    intro pre hb
    rw [L_shift]
    simp only [spec_l3Plain.l0, not_lt_end, if_false, L_const]
    rfl
  | cons x r ih =>
    intro pre hb
    rw [L_shift]
    have hl : pre.length < 4611686018427387904 := by simp at hb; omega
    have e : rd_T42 (pre ++ x :: r) (pre.length : Int) = x := getD_mid pre x r _
    simp only [spec_l3Plain.l0, lt_mid, le_nat, if_true, e, wrap_mid pre x hl, L_ite, L_const]
    rw [app_cons pre x r, ih (pre ++ [x]) (by simpa using hb)]
    by_cases h : x.f2 = 0 <;> simp [h, plainB]
theorem l3Plain_L (l : List S42) (h : l.length < 4611686018427387904) : L (fun k => spec_l3Plain.f k l) = some (plainB l) := by
  have := l3Plain_l l [] (by simpa using h)
  simpa [spec_l3Plain.f] using this
def objB (obj : Int) : Bool := inB obj 1 8
theorem isObjective_e (n : Int) : impl_isObjective.f n = some (objB n) := by
  simp only [impl_isObjective.f, within_e, Option.bind_some, objB]
theorem isValued_L (l : List S42) (o : List Int) (obj : Int) (h : l.length ≤ 1048576) (ho : o.length ≤ 1048576) : L (fun k => impl_isValued.f k l o obj) = some (schedB l o && objB obj) := by
  simp only [impl_isValued.f, bind_self, L_bind, L_ite, L_const, isScheduled_L l o h ho, Option.bind_some, isObjective_e, ite_and]
/-- The rule difference of two jobs. -/
def gapJ (obj : Int) (a b : S42) : Int := if obj = 1 then a.f2 - b.f2 else if obj = 2 then a.f0 - b.f0 else if obj = 3 then a.f0 * b.f1 - b.f0 * a.f1 else a.f3 - b.f3
theorem gapJ_neg (obj : Int) (a b : S42) : gapJ obj b a = - gapJ obj a b := by
  unfold gapJ
  repeat' split
  all_goals omega
theorem gap_mul {a b : S42} (ha : JobOk a) (hb : JobOk b) : 0 ≤ a.f0 * b.f1 ∧ a.f0 * b.f1 ≤ 100000 := by
  have h := mul_bd hb.w0 hb.w1 (e := a.f0) (by have := ha.t0; omega) (by have := ha.t1; omega)
  rw [Int.mul_comm] at h
  exact h
/-- The rule difference by the jobs' numbers. -/
def gapI (l : List S42) (obj x y : Int) : Int := gapJ obj (jobAt l x) (jobAt l y)
theorem gapI_neg (l : List S42) (obj x y : Int) : gapI l obj y x = - gapI l obj x y := gapJ_neg obj _ _
theorem difference_e (a b : S42) (obj : Int) (ha : JobOk a) (hb : JobOk b) : impl_difference.f a.f0 a.f1 a.f2 a.f3 b.f0 b.f1 b.f2 b.f3 obj = some (gapJ obj a b) := by
  have m1 := gap_mul ha hb
  have m2 := gap_mul hb ha
  have a1 := ha.t0
  have a2 := ha.t1
  have a3 := ha.r0
  have a4 := ha.r1
  have a5 := ha.d0
  have a6 := ha.d1
  have b1 := hb.t0
  have b2 := hb.t1
  have b3 := hb.r0
  have b4 := hb.r1
  have b5 := hb.d0
  have b6 := hb.d1
  unfold impl_difference.f gapJ
  rw [wrap_id (show -9223372036854775808 ≤ a.f2 - b.f2 by omega) (by omega), wrap_id (show -9223372036854775808 ≤ a.f0 - b.f0 by omega) (by omega), wrap_id (show -9223372036854775808 ≤ a.f0 * b.f1 by omega) (by omega), wrap_id (show -9223372036854775808 ≤ b.f0 * a.f1 by omega) (by omega), wrap_id (show -9223372036854775808 ≤ a.f0 * b.f1 - b.f0 * a.f1 by omega) (by omega), wrap_id (show -9223372036854775808 ≤ a.f3 - b.f3 by omega) (by omega)]
  repeat' split
  all_goals rfl
theorem l3Gap_e (l : List S42) (obj x y : Int) (hg : Good l) (hx : 0 ≤ x ∧ x < (l.length : Int)) (hy : 0 ≤ y ∧ y < (l.length : Int)) : spec_l3Gap.f l obj x y = some (gapI l obj x y) := by
  have ha := hg.2 _ (jobAt_mem hx.1 hx.2)
  have hb := hg.2 _ (jobAt_mem hy.1 hy.2)
  have e1 : rd_T42 l x = jobAt l x := rfl
  have e2 : rd_T42 l y = jobAt l y := rfl
  unfold spec_l3Gap.f gapI gapJ
  rw [if_pos hx.1, if_pos hx.2, if_pos hy.1, if_pos hy.2, e1, e2]
  generalize jobAt l x = a at ha
  generalize jobAt l y = b at hb
  have m1 := gap_mul ha hb
  have m2 := gap_mul hb ha
  have a1 := ha.t0
  have a2 := ha.t1
  have a3 := ha.r0
  have a4 := ha.r1
  have a5 := ha.d0
  have a6 := ha.d1
  have b1 := hb.t0
  have b2 := hb.t1
  have b3 := hb.r0
  have b4 := hb.r1
  have b5 := hb.d0
  have b6 := hb.d1
  rw [wrap_id (show -9223372036854775808 ≤ a.f2 - b.f2 by omega) (by omega), wrap_id (show -9223372036854775808 ≤ a.f0 - b.f0 by omega) (by omega), wrap_id (show -9223372036854775808 ≤ a.f0 * b.f1 by omega) (by omega), wrap_id (show -9223372036854775808 ≤ b.f0 * a.f1 by omega) (by omega), wrap_id (show -9223372036854775808 ≤ a.f0 * b.f1 - b.f0 * a.f1 by omega) (by omega), wrap_id (show -9223372036854775808 ≤ a.f3 - b.f3 by omega) (by omega)]
  repeat' split
  all_goals rfl
/-- Jobs, a ruled objective. -/
def ruledB (l : List S42) (obj : Int) : Bool := goodB l && (inB obj 1 4 && (decide (obj = 1) || plainB l))
theorem ruledB_good {l : List S42} {obj : Int} (h : ruledB l obj = true) : Good l := by
  rw [ruledB, Bool.and_eq_true] at h
  exact goodB_iff.1 h.1
theorem isRuled_L (l : List S42) (obj : Int) (h : l.length ≤ 1048576) : L (fun k => impl_isRuled.f k l obj) = some (ruledB l obj) := by
  simp only [impl_isRuled.f, bind_self, L_bind, L_ite, L_const, IsJobs_L l (by omega), isPlain_L l (by omega), within_e, Option.bind_some, ruledB]
  cases goodB l
  · rfl
  · by_cases h1 : obj = 1
    · subst h1
      rfl
    · rw [if_pos rfl, if_neg h1, ite_and]
      have : inB obj 1 4 = inB obj 2 4 := by
        unfold inB
        have : decide (1 ≤ obj) = decide (2 ≤ obj) := decide_eq_decide.2 (by omega)
        rw [this]
      simp [h1, this]
theorem isRuledAndOrdered_L (l : List S42) (o : List Int) (obj : Int) (h : l.length ≤ 1048576) (ho : o.length ≤ 1048576) : L (fun k => impl_isRuledAndOrdered.f k l o obj) = some (ruledB l obj && orderB l.length o) := by
  simp only [impl_isRuledAndOrdered.f, bind_self, L_bind, L_ite, L_const, isRuled_L l obj h, Option.bind_some, isOrder_L l.length o h (by omega), ite_and]
theorem l3Ruled_L (l : List S42) (obj : Int) (h : l.length ≤ 1048576) : L (fun k => spec_l3Ruled.f k l obj) = some (ruledB l obj) := by
  simp only [spec_l3Ruled.f, bind_self, L_bind, L_ite, L_const, l2Good_L l (by omega), l3Plain_L l (by omega), l1In_e, Option.bind_some, ruledB]
  cases goodB l
  · rfl
  · cases inB obj 1 4
    · rfl
    · by_cases h1 : obj = 1 <;> simp [h1]
theorem l3Both_L (l : List S42) (o : List Int) (obj : Int) (h : l.length ≤ 1048576) (ho : o.length ≤ 1048576) : L (fun k => spec_l3Both.f k l o obj) = some (ruledB l obj && orderB l.length o) := by
  simp only [spec_l3Both.f, bind_self, L_bind, L_ite, L_const, l3Ruled_L l obj h, Option.bind_some, l2Order_L l.length o h (by omega), ite_and]
  cases hr : ruledB l obj with
  | false => rfl
  | true => simp [(ruledB_good hr).1]
theorem copyInts_e (l : List Int) (h : l.length ≤ 1048576) : impl_copyInts.f l = some l := by
  simp only [impl_copyInts.f, Option.bind_some, List.length_nil, List.nil_append]
  rw [if_pos (by omega)]
theorem l1Own_e (l : List Int) (h : l.length ≤ 1048576) : spec_l1Own.f l = some l := by
  simp only [spec_l1Own.f, Option.bind_some, List.length_nil, List.nil_append]
  rw [if_pos (by omega)]
theorem rd_mid2 (pre : List Int) (x y : Int) (r : List Int) : rd (pre ++ x :: y :: r) ((pre.length : Int) + 1) = y := by
  show (pre ++ x :: y :: r).getD ((pre.length : Int) + 1).toNat 0 = y
  have : ((pre.length : Int) + 1).toNat = pre.length + 1 := by omega
  rw [this]
  simp [List.getD_eq_getElem?_getD]
theorem set_swap (pre : List Int) (x y : Int) (r : List Int) : ((pre ++ x :: y :: r).set (pre.length : Int).toNat y).set ((pre.length : Int) + 1).toNat x = pre ++ y :: x :: r := by
  have : ((pre.length : Int) + 1).toNat = pre.length + 1 := by omega
  rw [this, Int.toNat_natCast, List.set_append_right _ _ (Nat.le_refl _), List.set_append_right _ _ (by omega)]
  simp
theorem swap_perm (pre : List Int) (x y : Int) (r : List Int) : (pre ++ y :: x :: r).Perm (pre ++ x :: y :: r) := List.Perm.append_left pre (List.Perm.swap x y r)
theorem IsOrd.swap {n : Nat} {pre : List Int} {x y : Int} {r : List Int} (h : IsOrd n (pre ++ x :: y :: r)) : IsOrd n (pre ++ y :: x :: r) := IsOrd.of_perm ((swap_perm pre x y r).trans h.perm)
theorem exchanged_e (pre : List Int) (x y : Int) (r : List Int) (h : (pre ++ x :: y :: r).length ≤ 1048576) : impl_exchanged.f (pre ++ x :: y :: r) (pre.length : Int) = some (pre ++ y :: x :: r) := by
  have hl : (pre ++ x :: y :: r).length = pre.length + (r.length + 2) := by simp
  simp only [impl_exchanged.f, copyInts_e _ h, Option.bind_some, wrap_id (show -9223372036854775808 ≤ (pre.length : Int) + 1 by omega) (show (pre.length : Int) + 1 ≤ 9223372036854775807 by omega), rd_mid2, rd_mid, set_swap]
  rw [if_pos (by omega), if_pos (by omega), if_pos (by omega), if_pos (by omega)]
theorem l2Swap_e (pre : List Int) (x y : Int) (r : List Int) (h : (pre ++ x :: y :: r).length ≤ 1048576) : spec_l2Swap.f (pre ++ x :: y :: r) (pre.length : Int) = some (pre ++ y :: x :: r) := by
  have hl : (pre ++ x :: y :: r).length = pre.length + (r.length + 2) := by simp
  simp only [spec_l2Swap.f, l1Own_e _ h, Option.bind_some, wrap_id (show -9223372036854775808 ≤ (pre.length : Int) + 1 by omega) (show (pre.length : Int) + 1 ≤ 9223372036854775807 by omega), rd_mid2, rd_mid, set_swap]
  rw [if_pos (by omega), if_pos (by omega), if_pos (by omega), if_pos (by omega), if_pos (by omega), if_pos (by omega)]
/-- The number of inversions of a list by a test. -/
def invN (w : Int → Int → Bool) : List Int → Nat
  | [] => 0
  | x :: r => r.countP (w x) + invN w r
theorem invN_swap (w : Int → Int → Bool) (x y : Int) (hxy : w x y = true) (hyx : w y x = false) (r : List Int) : ∀ pre : List Int, invN w (pre ++ x :: y :: r) = invN w (pre ++ y :: x :: r) + 1
  | [] => by
    simp only [List.nil_append, invN, List.countP_cons, hxy, hyx, if_true, Bool.false_eq_true, if_false]
    omega
  | p :: pre => by
    have hc : (pre ++ x :: y :: r).countP (w p) = (pre ++ y :: x :: r).countP (w p) := by
      rw [List.countP_append, List.countP_append, List.countP_cons, List.countP_cons, List.countP_cons, List.countP_cons]
      omega
    simp only [List.cons_append, invN, hc, invN_swap w x y hxy hyx r pre]
    omega
/-- The first place of neighbors that are wrong, or -1. -/
def firstW (w : Int → Int → Bool) : Nat → List Int → Int
  | i, x :: y :: r => if w x y = true then (i : Int) else firstW w (i + 1) (y :: r)
  | _, _ => -1
theorem valF_bd (obj : Int) : ∀ (l : List S42) (es : List Int) (v : Int) (b : Bool) (B : Int), (∀ j ∈ l, JobOk j) → (∀ e ∈ es, 0 ≤ e ∧ e ≤ 2000) → 0 ≤ B → -B ≤ v → v ≤ B → -(B + 100000 * l.length) ≤ valF obj v b l es ∧ valF obj v b l es ≤ B + 100000 * l.length
  | [], es, v, b, B, _, _, _, h0, h1 => by
    simp only [valF, List.length_nil]
    omega
  | j :: l, [], v, b, B, _, _, _, h0, h1 => by
    simp only [valF, List.length_cons]
    omega
  | j :: l, e :: es, v, b, B, hl, he, hB, h0, h1 => by
    have hj := hl j List.mem_cons_self
    have hy := he e List.mem_cons_self
    have hb := addF_bd v j e obj b hj hy.1 hy.2 hB h0 h1
    have := valF_bd obj l es (addF v j e obj b) false (B + 100000) (fun x hx => hl x (List.mem_cons_of_mem _ hx)) (fun x hx => he x (List.mem_cons_of_mem _ hx)) (by omega) (by omega) (by omega)
    simp only [valF, List.length_cons]
    omega
/-- The value of an objective for an order. -/
def valO (l : List S42) (obj : Int) (o : List Int) : Int := valP obj l (endsP l o)
theorem valO_bd {l : List S42} {o : List Int} (obj : Int) (hg : Good l) (ho : IsOrd l.length o) : -800000 ≤ valO l obj o ∧ valO l obj o ≤ 800000 := by
  have h8 := hg.1
  have := valF_bd obj l (endsP l o) 0 true 0 hg.2 (fun e he => by have := endsP_bounds hg ho e he; omega) (by omega) (by omega) (by omega)
  unfold valO valP
  omega
theorem split_at (o : List Int) : ∀ i : Nat, i + 1 < o.length → ∃ (pre : List Int) (x y : Int) (r : List Int), o = pre ++ x :: y :: r ∧ pre.length = i := fun i hi => by
  refine ⟨o.take i, o[i], o[i + 1], o.drop (i + 2), ?_, by rw [List.length_take]; omega⟩
  have h1 : o.drop i = o[i] :: o.drop (i + 1) := List.drop_eq_getElem_cons (by omega)
  have h2 : o.drop (i + 1) = o[i + 1] :: o.drop (i + 2) := List.drop_eq_getElem_cons hi
  rw [← h2, ← h1, List.take_append_drop]
theorem gain_L (l : List S42) (obj : Int) (hg : Good l) (pre : List Int) (x y : Int) (r : List Int) (ho : IsOrd l.length (pre ++ x :: y :: r)) : L (fun k => impl_gain.f k l (pre ++ x :: y :: r) (pre.length : Int) obj) = some (valO l obj (pre ++ x :: y :: r) - valO l obj (pre ++ y :: x :: r)) := by
  have h8 := hg.1
  have hl := ho.1
  have b1 := valO_bd obj hg ho
  have b2 := valO_bd obj hg (IsOrd.swap ho)
  simp only [impl_gain.f, L_bind, L_const, valueOf_L l _ hg ho obj, valueOf_L l _ hg (IsOrd.swap ho) obj, exchanged_e pre x y r (by omega), Option.bind_some]
  unfold valO at b1 b2 ⊢
  rw [wrap_id (by omega) (by omega)]
/-- What is left behind a beginning of an order, and the time. -/
def zeroF (r : List Int) (rest : List Int) : List Int := r.foldl (fun v x => v.set x.toNat 0) rest
def nowF (l : List S42) : List Int → Int → Int
  | [], now => now
  | x :: r, now => nowF l r (max now (jobAt l x).f2 + (jobAt l x).f0)
def wrongB (l : List S42) (obj x y : Int) : Bool := decide (gapI l obj x y > 0)
/-- The inversions of a list by a test. -/
def invL (w : Int → Int → Bool) : List Int → List S63
  | [] => []
  | x :: r => (r.filter (w x)).map (fun y => (⟨x, y⟩ : S63)) ++ invL w r
theorem invL_len (w : Int → Int → Bool) : ∀ o : List Int, (invL w o).length ≤ o.length * o.length
  | [] => by simp [invL]
  | x :: r => by
    have h1 : (r.filter (w x)).length ≤ r.length := List.length_filter_le _ _
    have h2 := invL_len w r
    have h3 : (x :: r).length * (x :: r).length = r.length * r.length + 2 * r.length + 1 := by
      simp only [List.length_cons, Nat.add_mul, Nat.mul_add, Nat.mul_one, Nat.one_mul]
      omega
    rw [h3, invL, List.length_append, List.length_map]
    omega
theorem inv_in (l : List S42) (obj : Int) (hg : Good l) (x : Int) (hx : 0 ≤ x ∧ x < (l.length : Int)) (O O2 : List Int) (n i : Int) (r : List Int) (hr : ∀ y ∈ r, 0 ≤ y ∧ y < (l.length : Int)) : ∀ (pre : List Int) (out : List S63) , (pre ++ r).length < 1000000 → out.length + r.length < 1000000 →
    L (fun k => impl_inversions.l1 k l O obj out x O2 n i (pre ++ r) ((pre ++ r).length : Int) (pre.length : Int)) = L (fun k => impl_inversions.l0 k l O obj (out ++ (r.filter (wrongB l obj x)).map (fun y => (⟨x, y⟩ : S63))) O2 n (wrap64 (i + 1))) := by
  induction r with
  | nil =>
    intro pre out hb ho
    rw [L_shift]
    simp only [impl_inversions.l1, not_lt_end, if_false]
    simp only [List.filter_nil, List.map_nil, List.append_nil]
  | cons y r ih =>
    intro pre out hb ho
    rw [L_shift]
    have hy := hr y List.mem_cons_self
    have hl : pre.length < 4611686018427387904 := by simp at hb; omega
    have hjx := hg.2 _ (jobAt_mem hx.1 hx.2)
    have hjy := hg.2 _ (jobAt_mem hy.1 hy.2)
    have e1 : rd_T42 l x = jobAt l x := rfl
    have e2 : rd_T42 l y = jobAt l y := rfl
    have e3 : gapJ obj (jobAt l y) (jobAt l x) = - gapI l obj x y := gapI_neg l obj x y
    simp only [List.length_cons] at ho
    simp only [impl_inversions.l1, lt_mid, le_nat, if_true, rd_mid, wrap_mid pre y hl, if_pos hx.1, if_pos hx.2, if_pos hy.1, if_pos hy.2, e1, e2, difference_e _ _ obj hjy hjx, e3, Option.bind_some, if_pos (show out.length < 8796093022208 by omega), L_ite]
    rw [app_cons pre y r]
    by_cases hw : gapI l obj x y > 0
    · have hwb : wrongB l obj x y = true := decide_eq_true hw
      rw [if_pos (by omega), ih (fun z hz => hr z (List.mem_cons_of_mem _ hz)) (pre ++ [y]) _ (by simpa using hb) (by simp; omega), List.filter_cons, if_pos hwb, List.map_cons]
      simp only [List.append_assoc, List.cons_append, List.nil_append]
    · have hwb : wrongB l obj x y = false := decide_eq_false hw
      rw [if_neg (by omega), ih (fun z hz => hr z (List.mem_cons_of_mem _ hz)) (pre ++ [y]) _ (by simpa using hb) (by omega), List.filter_cons, if_neg (by rw [hwb]; decide)]
theorem inv_l (l : List S42) (obj : Int) (hg : Good l) : ∀ (r p : List Int) (out : List S63), (∀ y ∈ r, 0 ≤ y ∧ y < (l.length : Int)) → (p ++ r).length ≤ 8 → out.length + r.length * r.length ≤ 1000 →
    L (fun k => impl_inversions.l0 k l (p ++ r) obj out (p ++ r) ((p ++ r).length : Int) (p.length : Int)) = some (out ++ invL (wrongB l obj) r)
  | [], p, out, hr, hb, ho => by
    rw [L_shift]
    simp only [impl_inversions.l0, not_lt_end, if_false, L_const]
    simp only [invL, List.append_nil]
  | x :: r, p, out, hr, hb, ho => by
    rw [L_shift]
    have hl : p.length < 4611686018427387904 := by simp at hb; omega
    have h3 : (x :: r).length * (x :: r).length = r.length * r.length + 2 * r.length + 1 := by
      simp only [List.length_cons, Nat.add_mul, Nat.mul_add, Nat.mul_one, Nat.one_mul]
      omega
    rw [h3] at ho
    have e5 : (((p ++ [x]).length : Int) ≤ ((p ++ x :: r).length : Int)) = True := eq_true (by simp; omega)
    have e6 : (p ++ x :: r).drop ((p ++ [x]).length : Int).toNat = r := by
      rw [Int.toNat_natCast, app_cons p x r, List.drop_left]
    simp only [impl_inversions.l0, lt_mid, le_nat, if_true, rd_mid, wrap_mid p x hl, e5, e6]
    have h := inv_in l obj hg x (hr x List.mem_cons_self) (p ++ x :: r) (p ++ x :: r) ((p ++ x :: r).length : Int) (p.length : Int) r (fun y hy => hr y (List.mem_cons_of_mem _ hy)) [] out (by simp at hb ⊢; omega) (by omega)
    simp only [List.nil_append, List.length_nil, Int.natCast_zero] at h
    rw [h, wrap_mid p x hl, app_cons p x r, inv_l l obj hg r (p ++ [x]) _ (fun y hy => hr y (List.mem_cons_of_mem _ hy)) (by simpa using hb) (by
      have : (r.filter (wrongB l obj x)).length ≤ r.length := List.length_filter_le _ _
      simp only [List.length_append, List.length_map]
      omega), invL, List.append_assoc]
theorem inversions_L (l : List S42) (obj : Int) (o : List Int) (hg : Good l) (h8 : l.length ≤ 8) (hi : IsOrd l.length o) : L (fun k => impl_inversions.f k l o obj) = some (invL (wrongB l obj) o) := by
  have hl := hi.1
  have hn2 : o.length * o.length ≤ 64 := (Nat.mul_le_mul (by omega) (by omega) : o.length * o.length ≤ 8 * 8)
  have := inv_l l obj hg o [] [] hi.2.1 (by simp; omega) (by simp; omega)
  simpa [impl_inversions.f] using this
/-- Sooner: by date, then by number. -/
def dueQ (l : List S42) (a b : Int) : Bool := decide ((jobAt l a).f3 < (jobAt l b).f3) || (decide ((jobAt l a).f3 = (jobAt l b).f3) && decide (a < b))
theorem numsTo_asc (n : Nat) : (numsTo n).Pairwise (· < ·) := by
  rw [numsTo, List.pairwise_map]
  exact List.pairwise_lt_range.imp (fun h => by omega)
theorem ruled_l (n : Nat) (hn : n ≤ 1000) : ∀ (d : Nat) (i : Nat), i + d = n → L (fun k => impl_numbersTo.l0 k (n : Int) (numsTo i) (i : Int)) = some (numsTo n)
  | 0, i, hd => by
    rw [L_shift]
    have : i = n := by omega
    subst this
    simp only [impl_numbersTo.l0, Int.lt_irrefl, if_false, L_const]
  | d + 1, i, hd => by
    rw [L_shift]
    have ih := ruled_l n hn d (i + 1) (by omega)
    rw [numsTo_succ] at ih
    simp only [impl_numbersTo.l0, if_pos (show (i : Int) < (n : Int) by omega), if_pos (show (numsTo i).length < 17592186044416 by rw [numsTo_length]; omega), wrap_id (show -9223372036854775808 ≤ (i : Int) + 1 by omega) (show (i : Int) + 1 ≤ 9223372036854775807 by omega)]
    exact ih
/-- All orders of a list: by the first, in the list's order. -/
def permsN : Nat → List Int → List (List Int)
  | 0, _ => [[]]
  | n + 1, s => s.flatMap (fun y => (permsN n (s.filter (· ≠ y))).map (y :: ·))
/-- Each of a list's orders leads to the next one. -/
def RunL (N : List Int → List Int → Prop) : List (List Int) → Prop
  | [] => True
  | [_] => True
  | a :: b :: r => N a b ∧ RunL N (b :: r)
theorem RunL_app {N : List Int → List Int → Prop} {a b : List Int} : ∀ {p : List (List Int)} {q : List (List Int)}, RunL N (p ++ [a]) → RunL N (b :: q) → N a b → RunL N (p ++ a :: b :: q)
  | [], q, _, h2, h3 => ⟨h3, h2⟩
  | [x], q, h1, h2, h3 => ⟨h1.1, h3, h2⟩
  | x :: y :: p, q, h1, h2, h3 => ⟨h1.1, RunL_app (p := y :: p) h1.2 h2 h3⟩
/-- A run from one order to another one. -/
def RunFT (N : List Int → List Int → Prop) (os : List (List Int)) (a b : List Int) : Prop := RunL N os ∧ (∃ r, os = a :: r) ∧ (∃ p, os = p ++ [b])
theorem RunFT_app {N : List Int → List Int → Prop} {p q : List (List Int)} {a b c d : List Int} (h1 : RunFT N p a b) (h2 : RunFT N q c d) (h : N b c) : RunFT N (p ++ q) a d := by
  obtain ⟨r1, ⟨p1, e1⟩, ⟨p2, e2⟩⟩ := h1
  obtain ⟨r2, ⟨q1, f1⟩, ⟨q2, f2⟩⟩ := h2
  refine ⟨?_, ⟨p1 ++ q, by rw [e1]; rfl⟩, ⟨p ++ q2, by rw [f2, List.append_assoc]⟩⟩
  rw [e2, f1, List.append_assoc]
  rw [e2] at r1
  rw [f1] at r2
  exact RunL_app r1 r2 h
theorem filter_ne_mid {P Q : List Int} {y : Int} (h : (P ++ y :: Q).Pairwise (· < ·)) : (P ++ y :: Q).filter (· ≠ y) = P ++ Q := by
  rw [List.pairwise_append] at h
  obtain ⟨_, h2, h3⟩ := h
  rw [List.pairwise_cons] at h2
  rw [List.filter_append, List.filter_cons_of_neg (by simp), List.filter_eq_self.2, List.filter_eq_self.2]
  · intro a ha
    have := h2.1 a ha
    simp; omega
  · intro a ha
    have := h3 a ha y (by simp)
    simp; omega
theorem pairwise_mid {P Q : List Int} {y : Int} (h : (P ++ y :: Q).Pairwise (· < ·)) : (P ++ Q).Pairwise (· < ·) :=
  h.sublist (List.Sublist.append_left (List.sublist_cons_self y Q) P)
theorem perms_run {N : List Int → List Int → Prop} (hN : ∀ (A P Q : List Int) (y z : Int), (P ++ y :: z :: Q).Pairwise (· < ·) → N (A ++ y :: (Q.reverse ++ z :: P.reverse)) (A ++ z :: (P ++ y :: Q))) :
    ∀ (n : Nat) (A s : List Int), s.length = n → s.Pairwise (· < ·) → RunFT N ((permsN n s).map (A ++ ·)) (A ++ s) (A ++ s.reverse)
  | 0, A, s, hl, _ => by
    cases List.eq_nil_of_length_eq_zero hl
    exact ⟨trivial, ⟨[], by simp [permsN]⟩, ⟨[], by simp [permsN]⟩⟩
  | n + 1, A, s, hl, hs => by
    have key : ∀ (Q P : List Int) (y : Int), s = P ++ y :: Q → RunFT N (((y :: Q).flatMap (fun y => (permsN n (s.filter (· ≠ y))).map (y :: ·))).map (A ++ ·)) (A ++ y :: (P ++ Q)) (A ++ s.reverse) := by
      intro Q
      induction Q with
      | nil =>
        intro P y e
        subst e
        have h1 := perms_run hN n (A ++ [y]) (P ++ []) (by simp at hl ⊢; omega) (pairwise_mid hs)
        rw [List.flatMap_cons, List.flatMap_nil, List.append_nil, filter_ne_mid hs, List.map_map]
        have e2 : ((fun x => A ++ x) ∘ fun x => y :: x) = fun x => A ++ [y] ++ x := by
          funext x
          simp
        rw [e2]
        simpa using h1
      | cons z Q ih =>
        intro P y e
        have h2 := ih (P ++ [y]) z (by rw [e]; simp)
        have hs2 := hs
        rw [e] at hs2
        have h1 := perms_run hN n (A ++ [y]) (P ++ z :: Q) (by rw [e] at hl; simp at hl ⊢; omega) (pairwise_mid hs2)
        have e2 : ((fun x => A ++ x) ∘ fun x => y :: x) = fun x => A ++ [y] ++ x := by
          funext x
          simp
        have e3 : s.filter (· ≠ y) = P ++ z :: Q := by rw [e]; exact filter_ne_mid hs2
        rw [List.flatMap_cons, List.map_append, List.map_map, e2, e3]
        refine RunFT_app (b := A ++ y :: (Q.reverse ++ z :: P.reverse)) (c := A ++ z :: (P ++ y :: Q)) ?_ ?_ (hN A P Q y z hs2)
        · simpa using h1
        · simpa using h2
    cases s with
    | nil => simp at hl
    | cons y Q => exact key Q [] y rfl
theorem rd_far (pre : List Int) (x : Int) (mid : List Int) (y : Int) (post : List Int) (n : Int) (h : n = pre.length + 1 + mid.length) : rd (pre ++ x :: (mid ++ y :: post)) n = y := by
  have e1 : pre ++ x :: (mid ++ y :: post) = (pre ++ x :: mid) ++ y :: post := by simp
  have e2 : n = ((pre ++ x :: mid).length : Int) := by rw [h]; simp; omega
  rw [e1, e2]
  exact rd_mid _ _ _
theorem set_far (pre : List Int) (x : Int) (mid : List Int) (y : Int) (post : List Int) (n : Int) (h : n = pre.length + 1 + mid.length) : ((pre ++ x :: (mid ++ y :: post)).set (pre.length : Int).toNat y).set n.toNat x = pre ++ y :: (mid ++ x :: post) := by
  rw [set_mid pre x y _ pre rfl]
  have e1 : pre ++ y :: (mid ++ y :: post) = (pre ++ y :: mid) ++ y :: post := by simp
  have e2 : n = ((pre ++ y :: mid).length : Int) := by rw [h]; simp; omega
  rw [e1, e2, set_mid (pre ++ y :: mid) y x post (pre ++ y :: mid) rfl]
  simp
theorem rd_app (A D : List Int) (j : Nat) (h1 : A.length ≤ j) (h2 : j < (A ++ D).length) : ∃ h : j - A.length < D.length, rd (A ++ D) (j : Int) = D[j - A.length] := by
  rw [List.length_append] at h2
  refine ⟨by omega, ?_⟩
  show (A ++ D).getD (j : Int).toNat 0 = _
  rw [Int.toNat_natCast, List.getD_eq_getElem?_getD, List.getElem?_append_right h1, List.getElem?_eq_getElem (by omega)]
  rfl
theorem rd_desc (A D : List Int) (hD : D.Pairwise (· > ·)) (j : Nat) (h1 : A.length ≤ j) (h2 : j + 1 < (A ++ D).length) : rd (A ++ D) (j : Int) > rd (A ++ D) ((j : Int) + 1) := by
  obtain ⟨a1, e1⟩ := rd_app A D j h1 (by omega)
  obtain ⟨a2, e2⟩ := rd_app A D (j + 1) (by omega) h2
  have e3 : ((j + 1 : Nat) : Int) = (j : Int) + 1 := by omega
  rw [e3] at e2
  rw [e1, e2]
  exact (List.pairwise_iff_getElem.1 hD) _ _ a1 a2 (by omega)
theorem next_scan (o : List Int) (hl : o.length ≤ 1048576) (i : Nat) : ∀ d : Nat, i + d < o.length → (∀ j : Nat, i ≤ j → j < i + d → rd o (j : Int) > rd o ((j : Int) + 1)) → L (fun k => impl_nextOrder.l0 k o (((i + d : Nat) : Int) - 1)) = L (fun k => impl_nextOrder.l0 k o ((i : Int) - 1))
  | 0, _, _ => rfl
  | d + 1, h, hj => by
    have e0 : (((i + (d + 1) : Nat) : Int) - 1) = ((i + d : Nat) : Int) := by omega
    have h1 := hj (i + d) (by omega) (by omega)
    rw [e0, L_shift]
    simp only [impl_nextOrder.l0, wrap_id (show -9223372036854775808 ≤ ((i + d : Nat) : Int) + 1 by omega) (show ((i + d : Nat) : Int) + 1 ≤ 9223372036854775807 by omega), wrap_id (show -9223372036854775808 ≤ ((i + d : Nat) : Int) - 1 by omega) (show ((i + d : Nat) : Int) - 1 ≤ 9223372036854775807 by omega)]
    simp only [if_pos (show ((i + d : Nat) : Int) ≥ 0 by omega), if_pos (show (0 : Int) ≤ ((i + d : Nat) : Int) by omega), if_pos (show ((i + d : Nat) : Int) < (o.length : Int) by omega), if_pos (show (0 : Int) ≤ ((i + d : Nat) : Int) + 1 by omega), if_pos (show ((i + d : Nat) : Int) + 1 < (o.length : Int) by omega), if_pos h1]
    exact next_scan o hl i d (by omega) (fun j a b => hj j a (by omega))
theorem next_scan1 (o : List Int) (hl : o.length ≤ 1048576) (p : Nat) (hp : p < o.length) (i : Nat) : ∀ d : Nat, i + d ≤ o.length → (∀ j : Nat, i ≤ j → j < i + d → rd o (j : Int) < rd o (p : Int)) → L (fun k => impl_nextOrder.l1 k o (p : Int) (((i + d : Nat) : Int) - 1)) = L (fun k => impl_nextOrder.l1 k o (p : Int) ((i : Int) - 1))
  | 0, _, _ => rfl
  | d + 1, h, hj => by
    have e0 : (((i + (d + 1) : Nat) : Int) - 1) = ((i + d : Nat) : Int) := by omega
    have h1 := hj (i + d) (by omega) (by omega)
    rw [e0, L_shift]
    simp only [impl_nextOrder.l1, wrap_id (show -9223372036854775808 ≤ ((i + d : Nat) : Int) - 1 by omega) (show ((i + d : Nat) : Int) - 1 ≤ 9223372036854775807 by omega)]
    simp only [if_pos (show (0 : Int) ≤ ((i + d : Nat) : Int) by omega), if_pos (show ((i + d : Nat) : Int) < (o.length : Int) by omega), if_pos (show (0 : Int) ≤ (p : Int) by omega), if_pos (show (p : Int) < (o.length : Int) by omega), if_pos h1]
    exact next_scan1 o hl p hp i d (by omega) (fun j a b => hj j a (by omega))
theorem next_rev : ∀ (n : Nat) (A M B : List Int), M.length ≤ n → (A ++ (M ++ B)).length ≤ 1048576 → L (fun k => impl_nextOrder.l2 k (A ++ (M ++ B)) (A.length : Int) ((A.length : Int) + M.length - 1)) = some (true, A ++ (M.reverse ++ B))
  | n, A, [], B, h, hl => by
    rw [L_shift]
    simp only [impl_nextOrder.l2, List.length_nil, if_neg (show ¬ ((A.length : Int) < (A.length : Int) + ((0 : Nat) : Int) - 1) by omega), L_const, List.reverse_nil]
  | 0, A, x :: M, B, h, hl => by simp at h
  | n + 1, A, x :: M, B, h, hl => by
    rcases List.eq_nil_or_concat M with rfl | ⟨M, y, rfl⟩
    · rw [L_shift]
      have e : ¬ ((A.length : Int) < (A.length : Int) + (([x] : List Int).length : Int) - 1) := by simp
      simp only [impl_nextOrder.l2, if_neg e, L_const, List.reverse_singleton]
    · have hlen : (A ++ (x :: (M.concat y) ++ B)).length = A.length + 1 + M.length + 1 + B.length := by simp; omega
      have e0 : A ++ (x :: (M.concat y) ++ B) = A ++ x :: (M ++ y :: B) := by simp
      have e1 : (A.length : Int) + ((x :: M.concat y).length : Int) - 1 = (A.length : Int) + 1 + M.length := by simp; omega
      have hlen2 : (A ++ x :: (M ++ y :: B)).length = A.length + 1 + M.length + 1 + B.length := by rw [← e0]; exact hlen
      have ih := next_rev n (A ++ [y]) M (x :: B) (by simp at h; omega) (by simp at hlen2 hl ⊢; omega)
      have e2 : ((A ++ [y]).length : Int) = (A.length : Int) + 1 := by simp
      rw [e2] at ih
      have e3 : (A ++ [y]) ++ (M ++ x :: B) = A ++ y :: (M ++ x :: B) := by simp
      rw [e3] at ih
      rw [e0, e1, L_shift]
      rw [hlen] at hl
      simp only [impl_nextOrder.l2, rd_far A x M y B _ rfl, rd_mid, set_far A x M y B _ rfl, wrap_id (show -9223372036854775808 ≤ (A.length : Int) + 1 + M.length - 1 by omega) (show (A.length : Int) + 1 + M.length - 1 ≤ 9223372036854775807 by omega), wrap_id (show -9223372036854775808 ≤ (A.length : Int) + 1 by omega) (show (A.length : Int) + 1 ≤ 9223372036854775807 by omega)]
      simp only [if_pos (show (A.length : Int) < (A.length : Int) + 1 + M.length by omega), if_pos (show (0 : Int) ≤ (A.length : Int) + 1 + M.length by omega), if_pos (show (A.length : Int) + 1 + M.length < ((A ++ x :: (M ++ y :: B)).length : Int) by omega), if_pos (show (0 : Int) ≤ (A.length : Int) by omega), if_pos (show (A.length : Int) < ((A ++ x :: (M ++ y :: B)).length : Int) by omega)]
      rw [ih]
      simp
theorem next_step (A P Q : List Int) (y z : Int) (hs : (P ++ y :: z :: Q).Pairwise (· < ·)) (hl : (A ++ y :: (Q.reverse ++ z :: P.reverse)).length ≤ 1048576) : L (fun k => impl_nextOrder.f k (A ++ y :: (Q.reverse ++ z :: P.reverse))) = some (true, A ++ z :: (P ++ y :: Q)) := by
  rw [List.pairwise_append, List.pairwise_cons, List.pairwise_cons] at hs
  obtain ⟨hP, ⟨hy, hz, hQ⟩, hPy⟩ := hs
  have hD : (Q.reverse ++ z :: P.reverse).Pairwise (· > ·) := by
    have e : Q.reverse ++ z :: P.reverse = (P ++ z :: Q).reverse := by simp
    rw [e, List.pairwise_reverse, List.pairwise_append, List.pairwise_cons]
    exact ⟨hP, ⟨hz, hQ⟩, fun a ha b hb => hPy a ha b (List.mem_cons_of_mem _ hb)⟩
  have hlen : (A ++ y :: (Q.reverse ++ z :: P.reverse)).length = A.length + 1 + Q.length + 1 + P.length := by simp; omega
  generalize ho : A ++ y :: (Q.reverse ++ z :: P.reverse) = o at *
  have ho1 : o = (A ++ [y]) ++ (Q.reverse ++ z :: P.reverse) := by rw [← ho]; simp
  have ho2 : o = (A ++ y :: (Q.reverse ++ [z])) ++ P.reverse := by rw [← ho]; simp
  have hry : rd o (A.length : Int) = y := by rw [← ho]; exact rd_mid _ _ _
  have hrz : rd o ((A.length : Int) + 1 + (Q.reverse.length : Int)) = z := by rw [← ho]; exact rd_far A y Q.reverse z P.reverse _ rfl
  have e0 : (o.length : Int) - 2 = ((A.length + 1 + (Q.length + P.length) : Nat) : Int) - 1 := by omega
  simp only [impl_nextOrder.f, wrap_id (show -9223372036854775808 ≤ (o.length : Int) - 2 by omega) (show (o.length : Int) - 2 ≤ 9223372036854775807 by omega)]
  rw [e0, next_scan o hl (A.length + 1) (Q.length + P.length) (by omega) (fun j h1 h2 => by
    have := rd_desc (A ++ [y]) _ hD j (by simp; omega) (by rw [← ho1]; omega)
    rwa [← ho1] at this)]
  have e1 : (((A.length + 1 : Nat) : Int) - 1) = (A.length : Int) := by omega
  rw [e1, L_shift]
  have hfirst : ¬ (rd o (A.length : Int) > rd o ((A.length : Int) + 1)) := by
    obtain ⟨a1, a2⟩ := rd_app (A ++ [y]) (Q.reverse ++ z :: P.reverse) (A.length + 1) (by simp) (by rw [← ho1]; omega)
    rw [← ho1] at a2
    have e3 : ((A.length + 1 : Nat) : Int) = (A.length : Int) + 1 := by omega
    rw [e3] at a2
    rw [hry, a2]
    have h5 : A.length + 1 - (A ++ [y]).length = 0 := by simp
    simp only [h5]
    have : ∀ (l : List Int) (h : 0 < (l ++ z :: P.reverse).length), (∀ q ∈ l, y < q) → y < (l ++ z :: P.reverse)[0] := by
      intro l h hq
      cases l with
      | nil => exact hy z (by simp)
      | cons q l => exact hq q (by simp)
    have := this Q.reverse (by simp; omega) (fun q hq => hy q (by simp at hq; simp [hq]))
    omega
  simp only [impl_nextOrder.l0, wrap_id (show -9223372036854775808 ≤ (A.length : Int) + 1 by omega) (show (A.length : Int) + 1 ≤ 9223372036854775807 by omega)]
  simp only [if_pos (show (A.length : Int) ≥ 0 by omega), if_pos (show (0 : Int) ≤ (A.length : Int) by omega), if_pos (show (A.length : Int) < (o.length : Int) by omega), if_pos (show (0 : Int) ≤ (A.length : Int) + 1 by omega), if_pos (show (A.length : Int) + 1 < (o.length : Int) by omega), if_neg hfirst]
  rw [L_shift]
  have e4 : (o.length : Int) - 1 = ((A.length + 1 + Q.length + 1 + P.length : Nat) : Int) - 1 := by omega
  simp only [impl_nextOrder.j1, if_neg (show ¬ (A.length : Int) < 0 by omega), wrap_id (show -9223372036854775808 ≤ (o.length : Int) - 1 by omega) (show (o.length : Int) - 1 ≤ 9223372036854775807 by omega)]
  rw [e4, next_scan1 o hl A.length (by omega) (A.length + 1 + Q.length + 1) P.length (by omega) (fun j h1 h2 => by
    obtain ⟨a1, a2⟩ := rd_app (A ++ y :: (Q.reverse ++ [z])) P.reverse j (by simp; omega) (by rw [← ho2]; omega)
    rw [← ho2] at a2
    rw [a2, hry]
    have hm : P.reverse[j - (A ++ y :: (Q.reverse ++ [z])).length] ∈ P := List.mem_reverse.1 (List.getElem_mem a1)
    exact hPy _ hm y List.mem_cons_self)]
  have e5 : (((A.length + 1 + Q.length + 1 : Nat) : Int) - 1) = (A.length : Int) + 1 + (Q.reverse.length : Int) := by rw [List.length_reverse]; omega
  have e6 : (Q.reverse.length : Int) = (Q.length : Int) := by simp
  rw [e5, L_shift]
  have hyz := hy z List.mem_cons_self
  simp only [impl_nextOrder.l1, hrz, hry, wrap_id (show -9223372036854775808 ≤ (A.length : Int) + 1 by omega) (show (A.length : Int) + 1 ≤ 9223372036854775807 by omega)]
  simp only [if_pos (show (0 : Int) ≤ (A.length : Int) + 1 + (Q.reverse.length : Int) by omega), if_pos (show (A.length : Int) + 1 + (Q.reverse.length : Int) < (o.length : Int) by omega), if_pos (show (0 : Int) ≤ (A.length : Int) by omega), if_pos (show (A.length : Int) < (o.length : Int) by omega), if_neg (show ¬ z < y by omega), wrap_id (show -9223372036854775808 ≤ (o.length : Int) - 1 by omega) (show (o.length : Int) - 1 ≤ 9223372036854775807 by omega)]
  have hset := set_far A y Q.reverse z P.reverse ((A.length : Int) + 1 + (Q.reverse.length : Int)) rfl
  rw [ho] at hset
  rw [hset]
  have e7 : A ++ z :: (Q.reverse ++ y :: P.reverse) = (A ++ [z]) ++ ((Q.reverse ++ y :: P.reverse) ++ []) := by simp
  have e8 : (A.length : Int) + 1 = ((A ++ [z]).length : Int) := by simp
  have e9 : (o.length : Int) - 1 = ((A ++ [z]).length : Int) + (Q.reverse ++ y :: P.reverse).length - 1 := by simp; omega
  rw [e7, e8, e9, next_rev _ _ _ _ (Nat.le_refl _) (by rw [← e7]; simp; omega)]
  simp
theorem next_last (s : List Int) (hs : s.Pairwise (· < ·)) (hl : s.length ≤ 1048576) : L (fun k => impl_nextOrder.f k s.reverse) = some (false, s.reverse) := by
  have hD : s.reverse.Pairwise (· > ·) := List.pairwise_reverse.2 hs
  have hlen : s.reverse.length = s.length := by simp
  generalize s.reverse = o at *
  have hend : ∀ x : Int, x < 0 → L (fun k => impl_nextOrder.l0 k o x) = some (false, o) := by
    intro x hx
    rw [L_shift]
    simp only [impl_nextOrder.l0, if_neg (show ¬ x ≥ 0 by omega)]
    rw [L_shift]
    simp only [impl_nextOrder.j1, if_pos hx, L_const]
  simp only [impl_nextOrder.f, wrap_id (show -9223372036854775808 ≤ (o.length : Int) - 2 by omega) (show (o.length : Int) - 2 ≤ 9223372036854775807 by omega)]
  by_cases h : o.length ≤ 1
  · exact hend _ (by omega)
  · have e0 : (o.length : Int) - 2 = ((0 + (o.length - 1) : Nat) : Int) - 1 := by omega
    rw [e0, next_scan o (by omega) 0 (o.length - 1) (by omega) (fun j h1 h2 => by
      have := rd_desc [] o hD j (by simp) (by simp; omega)
      simpa using this)]
    exact hend _ (by omega)
theorem permsN_perm : ∀ (n : Nat) (s : List Int), s.length = n → s.Nodup → ∀ q ∈ permsN n s, q.Perm s
  | 0, s, hl, _, q, hq => by
    cases List.eq_nil_of_length_eq_zero hl
    simp only [permsN, List.mem_singleton] at hq
    rw [hq]
  | n + 1, s, hl, hs, q, hq => by
    simp only [permsN, List.mem_flatMap, List.mem_map] at hq
    obtain ⟨y, hy, p, hp, rfl⟩ := hq
    have e := hs.erase_eq_filter y
    have h1 : (s.filter (· ≠ y)).length = n := by
      have h2 := List.length_erase_of_mem hy
      rw [e] at h2
      simp only [bne] at h2
      have h3 : (s.filter (fun x => !x == y)) = s.filter (· ≠ y) := by
        apply List.filter_congr
        intro a _
        by_cases h : a = y <;> simp [h]
      rw [h3] at h2
      omega
    have ih := permsN_perm n _ h1 (hs.filter _) p hp
    refine (ih.cons y).trans ?_
    have h3 : (s.filter (fun x => x != y)) = s.filter (· ≠ y) := by
      apply List.filter_congr
      intro a _
      by_cases h : a = y <;> simp [h]
    rw [← h3, ← e]
    exact (List.perm_cons_erase hy).symm
/-- One order leads to the next one. -/
def NextL (a b : List Int) : Prop := L (fun k => impl_nextOrder.f k a) = some (true, b)
theorem each_run {σ : Type} {step : Nat → List Int → σ → Option σ} {F : σ → List Int → σ} (hm : ∀ o s, Mono (fun k => step k o s)) : ∀ (r : List (List Int)) (o : List Int) (s : σ), (∀ q ∈ o :: r, ∀ s, L (fun k => step k q s) = some (F s q)) → RunL NextL (o :: r) → (∀ (p : List (List Int)) (b : List Int), o :: r = p ++ [b] → ∃ c, L (fun k => impl_nextOrder.f k b) = some (false, c)) → L (fun k => impl_eachOrder.run step k o s) = some ((o :: r).foldl F s)
  | [], o, s, h1, h2, h3 => by
    obtain ⟨c, hc⟩ := h3 [] o rfl
    rw [L_shift]
    simp only [impl_eachOrder.run, L_bind, h1 o List.mem_cons_self, hc, Option.bind_some, Bool.false_eq_true, if_false, L_const]
    rfl
  | b :: r, o, s, h1, h2, h3 => by
    have h4 := h2.1
    unfold NextL at h4
    rw [L_shift]
    simp only [impl_eachOrder.run, L_bind, h1 o List.mem_cons_self, h4, Option.bind_some, if_true]
    exact each_run hm r b _ (fun q hq => h1 q (List.mem_cons_of_mem _ hq)) h2.2 (fun p c e => h3 (o :: p) c (by rw [e]; rfl))
/-- A walk over all orders of n things, told by a fold over them. -/
theorem each_L {σ : Type} {step : Nat → List Int → σ → Option σ} {F : σ → List Int → σ} (hm : ∀ o s, Mono (fun k => step k o s)) (n : Nat) (hn : n ≤ 8) (s : σ) (h : ∀ q, IsOrd n q → ∀ s, L (fun k => step k q s) = some (F s q)) : L (fun k => impl_eachOrder.run step k (numsTo n) s) = some ((permsN n (numsTo n)).foldl F s) := by
  have hlen : ∀ (A P Q : List Int) (y z : Int), A ++ P ++ y :: z :: Q = A ++ P ++ y :: z :: Q := fun _ _ _ _ _ => rfl
  have hrun := perms_run (N := fun a b => a.length ≤ 1048576 → NextL a b) (fun A P Q y z hs hl => next_step A P Q y z hs hl) n [] (numsTo n) (numsTo_length n) (numsTo_asc n)
  have e : (permsN n (numsTo n)).map (fun x => [] ++ x) = permsN n (numsTo n) := by simp
  rw [e] at hrun
  obtain ⟨h1, ⟨r, h2⟩, ⟨p, h3⟩⟩ := hrun
  rw [List.nil_append] at h2 h3
  have hall : ∀ q ∈ permsN n (numsTo n), IsOrd n q := fun q hq => IsOrd.of_perm (permsN_perm n (numsTo n) (numsTo_length n) (numsTo_nodup n) q hq)
  rw [h2] at hall h1 h3 ⊢
  refine each_run hm r (numsTo n) s (fun q hq => h q (hall q hq)) ?_ (fun p' b hb => ?_)
  · have : ∀ os : List (List Int), (∀ q ∈ os, IsOrd n q) → RunL (fun a b => a.length ≤ 1048576 → NextL a b) os → RunL NextL os := by
      intro os
      induction os with
      | nil => exact fun _ _ => trivial
      | cons a os ih =>
        cases os with
        | nil => exact fun _ _ => trivial
        | cons b os => exact fun ha hr => ⟨hr.1 (by rw [(ha a List.mem_cons_self).1]; omega), ih (fun q hq => ha q (List.mem_cons_of_mem _ hq)) hr.2⟩
    exact this _ hall h1
  · rw [h3] at hb
    have hb2 : b = (numsTo n).reverse := by
      have := congrArg List.getLast? hb
      simpa using this.symm
    exact ⟨_, by rw [hb2]; exact next_last _ (numsTo_asc n) (by rw [numsTo_length]; omega)⟩
/-- What one order does to the best so far: the first best order, its value, and how many there are. -/
def bestS (V : List Int → Int) (s : List Int × Int × Int) (o : List Int) : List Int × Int × Int :=
  if s.2.2 = 0 ∨ V o < s.2.1 then (o, V o, 1) else if V o = s.2.1 then (s.1, s.2.1, wrap64 (s.2.2 + 1)) else s
/-- The best of all orders. -/
def bestP (l : List S42) (obj : Int) : List Int × Int × Int := (permsN l.length (numsTo l.length)).foldl (bestS (fun o => valP obj l (endsP l o))) ([], 0, 0)
theorem best_L (l : List S42) (hg : Good l) (obj : Int) : L (fun k => impl_best.f k l obj) = some (bestP l obj) := by
  have h8 := hg.1
  have hn := ruled_l l.length (by omega) l.length 0 (by omega)
  have hn2 : L (fun k => impl_numbersTo.f k (l.length : Int)) = some (numsTo l.length) := by
    simp only [impl_numbersTo.f]
    exact hn
  simp only [impl_best.f, L_bind, hn2, Option.bind_some]
  refine each_L (fun o s => ⟨⟨fun k => impl_best_1.step_mono l obj k o s⟩⟩) l.length h8 ([], 0, 0) (fun q hq s => ?_)
  have hq1 := hq.1
  simp only [impl_best_1.step, L_bind, valueOf_L l q hg hq obj, Option.bind_some, L_ite, copyInts_e q (by omega), L_const, bestS]
  repeat' split
  all_goals rfl
theorem wf_u8 {y : Int} (h : (Lit.int .u8 y).wf = true) : 0 ≤ y ∧ y < 256 := by
  have h1 : (decide (IntKind.u8.min ≤ y) && decide (y ≤ IntKind.u8.max)) = true := h
  rw [Bool.and_eq_true, decide_eq_true_eq, decide_eq_true_eq] at h1
  have e1 : IntKind.u8.min = 0 := rfl
  have e2 : IntKind.u8.max = 255 := rfl
  omega
theorem u64_rng (n : Int) : 0 ≤ IntKind.u64.wrap n ∧ IntKind.u64.wrap n < 18446744073709551616 := by
  rw [IntKind.wrap_u64]
  omega
theorem u64_255 (x : Int) (h0 : 0 ≤ x) (h1 : x < 18446744073709551616) : Go.bits .and .u64 x 255 = x % 256 :=
  bits_mask .u64 64 (by decide) (fun n h0 h1 => by rw [IntKind.wrap_u64]; have : (2 : Int) ^ 64 = 18446744073709551616 := rfl; omega) 8 (by decide) x h0 (by have : (2 : Int) ^ 64 = 18446744073709551616 := rfl; omega)
theorem curByte (X : Int) : ∃ v, wrap64 (Go.bits .and .u64 (IntKind.u64.wrap X / 1099511627776) 255) = v ∧ 0 ≤ v ∧ v ≤ 255 := by
  have h := u64_rng X
  generalize IntKind.u64.wrap X = Y at h
  rw [u64_255 (Y / 1099511627776) (by omega) (by omega)]
  exact ⟨(Y / 1099511627776) % 256, wrap_id (by omega) (by omega), by omega, by omega⟩
/-- Bytes. -/
def Byt (c : List Int) : Prop := c.length ≤ 100000 ∧ ∀ y ∈ c, 0 ≤ y ∧ y < 256
theorem cur_next (c : List Int) (hc : Byt c) (a s : Int) (h0 : 0 ≤ a) (h1 : a ≤ 1000000000) : ∃ v s', spec_l1Cur_next.f c a s = some (v, a + 1, s') ∧ 0 ≤ v ∧ v ≤ 255 := by
  have e1 : wrap64 (a + 1) = a + 1 := wrap_id (by omega) (by omega)
  by_cases hl : a < (c.length : Int)
  · have hm : rd c a ∈ c := getD_mem (by omega)
    have hv := hc.2 _ hm
    have e2 : wrap64 (rd c a) = rd c a := wrap_id (by omega) (by omega)
    obtain ⟨s', hs'⟩ : ∃ s', spec_l1Cur_next.f c a s = some (rd c a, a + 1, s') := by
      rw [spec_l1Cur_next.f, if_pos hl, if_pos h0, e1, if_pos (show a + 1 ≤ (c.length : Int) by omega), e2]
      exact ⟨_, rfl⟩
    exact ⟨rd c a, s', hs', hv.1, by omega⟩
  · obtain ⟨v, e, v0, v1⟩ := curByte (IntKind.u64.wrap ((IntKind.u64.wrap (s * 6364136223846793005)) + 0) + 462197)
    obtain ⟨s', hs'⟩ : ∃ s', spec_l1Cur_next.f c a s = some (v, a + 1, s') := by
      rw [spec_l1Cur_next.f, if_neg hl, e1, if_neg (show ¬ a + 1 ≤ (c.length : Int) by omega), e]
      exact ⟨_, rfl⟩
    exact ⟨v, s', hs', v0, v1⟩
theorem cur_pick (c : List Int) (hc : Byt c) (a s n : Int) (h0 : 0 ≤ a) (h1 : a ≤ 900000000) : ∃ r a' s', spec_l1Cur_pick.f c a s n = some (r, a', s') ∧ 0 ≤ r ∧ (r < n ∨ r = 0 ∧ n ≤ 1) ∧ a ≤ a' ∧ a' ≤ a + 2 := by
  by_cases hn : n ≤ 1
  · exact ⟨0, a, s, by rw [spec_l1Cur_pick.f, if_pos hn], by omega, .inr ⟨rfl, hn⟩, by omega, by omega⟩
  · obtain ⟨v, s1, e1, v0, v1⟩ := cur_next c hc a s h0 (by omega)
    by_cases hb : n > 200
    · obtain ⟨u, s2, e2, u0, u1⟩ := cur_next c hc (a + 1) s1 (by omega) (by omega)
      have e3 : wrap64 (wrap64 (v * 256) + u) = v * 256 + u := by rw [wrap_id (n := v * 256) (by omega) (by omega), wrap_id (by omega) (by omega)]
      refine ⟨Int.tmod (v * 256 + u) n, a + 1 + 1, s2, ?_, Int.tmod_nonneg _ (by omega), .inl (Int.tmod_lt_of_pos _ (by omega)), by omega, by omega⟩
      rw [spec_l1Cur_pick.f, if_neg hn, e1, Option.bind_some]
      simp only [if_pos hb, e2, Option.bind_some, if_neg (show ¬ n = 0 by omega), e3]
    · refine ⟨Int.tmod v n, a + 1, s1, ?_, Int.tmod_nonneg _ v0, .inl (Int.tmod_lt_of_pos _ (by omega)), by omega, by omega⟩
      rw [spec_l1Cur_pick.f, if_neg hn, e1, Option.bind_some]
      simp only [if_neg hb, if_neg (show ¬ n = 0 by omega)]
theorem cur_one (c : List Int) (hc : Byt c) (a s n : Int) (h0 : 0 ≤ a) (h1 : a ≤ 900000000) : ∃ b a' s', spec_l1Cur_one.f c a s n = some (b, a', s') ∧ a ≤ a' ∧ a' ≤ a + 2 := by
  obtain ⟨r, a', s', e, _, _, h2, h3⟩ := cur_pick c hc a s n h0 h1
  exact ⟨r == 0, a', s', by rw [spec_l1Cur_one.f, e, Option.bind_some], h2, h3⟩
theorem cur_among (c : List Int) (hc : Byt c) (l : List Int) (hl : 0 < l.length) (a s : Int) (h0 : 0 ≤ a) (h1 : a ≤ 900000000) : ∃ z a' s', spec_l1Cur_among.f c a s l = some (z, a', s') ∧ z ∈ l ∧ a ≤ a' ∧ a' ≤ a + 2 := by
  obtain ⟨r, a', s', e, r0, r1, h2, h3⟩ := cur_pick c hc a s (l.length : Int) h0 h1
  have hr : r < (l.length : Int) := by omega
  refine ⟨rd l r, a', s', ?_, getD_mem (by omega), h2, h3⟩
  rw [spec_l1Cur_among.f, e, Option.bind_some]
  simp only [if_pos r0, if_pos hr]
theorem cur_job (c : List Int) (hc : Byt c) (a s : Int) (b : Bool) (h0 : 0 ≤ a) (h1 : a ≤ 800000000) : ∃ t w r d a' s', spec_l1Cur_job.f c a s b = some (t, w, r, d, a', s') ∧ a ≤ a' ∧ a' ≤ a + 8 := by
  obtain ⟨t, a1, s1, e1, _, p1, q1⟩ := cur_among c hc [1, 2, 3, 4, 5, 7, 9] (by decide) a s h0 (by omega)
  obtain ⟨w, a2, s2, e2, _, p2, q2⟩ := cur_among c hc [0, 1, 1, 2, 3, 5, 8] (by decide) a1 s1 (by omega) (by omega)
  obtain ⟨d, a3, s3, e3, _, _, p3, q3⟩ := cur_pick c hc a2 s2 24 (by omega) (by omega)
  cases b with
  | false =>
    refine ⟨t, w, 0, d, a3, s3, ?_, by omega, by omega⟩
    simp only [spec_l1Cur_job.f, e1, e2, e3, Option.bind_some, Bool.false_eq_true, if_false]
  | true =>
    obtain ⟨r, a4, s4, e4, _, _, p4, q4⟩ := cur_pick c hc a3 s3 12 (by omega) (by omega)
    refine ⟨t, w, r, d, a4, s4, ?_, by omega, by omega⟩
    simp only [spec_l1Cur_job.f, e1, e2, e3, e4, Option.bind_some, if_true]
theorem cur_spoilt (c : List Int) (hc : Byt c) (a s : Int) (x0 x1 x2 x3 : Int) (h0 : 0 ≤ a) (h1 : a ≤ 800000000) : ∃ t w r d a' s', spec_l1Cur_spoiltJob.f c a s x0 x1 x2 x3 = some (t, w, r, d, a', s') ∧ a ≤ a' ∧ a' ≤ a + 4 := by
  obtain ⟨p, a1, s1, e1, _, _, p1, q1⟩ := cur_pick c hc a s 4 h0 (by omega)
  obtain ⟨z1, b1, t1, f1, _, g1, k1⟩ := cur_among c hc [0, 50, 51, (-1), 4611686018427387904] (by decide) a1 s1 (by omega) (by omega)
  obtain ⟨z2, b2, t2, f2, _, g2, k2⟩ := cur_among c hc [(-1), 50, 51] (by decide) a1 s1 (by omega) (by omega)
  obtain ⟨z3, b3, t3, f3, _, g3, k3⟩ := cur_among c hc [(-1), 500, 501] (by decide) a1 s1 (by omega) (by omega)
  obtain ⟨z4, b4, t4, f4, _, g4, k4⟩ := cur_among c hc [(-1), 500, 501, (-9223372036854775808)] (by decide) a1 s1 (by omega) (by omega)
  by_cases c0 : p = 0
  · exact ⟨z1, x1, x2, x3, b1, t1, by rw [spec_l1Cur_spoiltJob.f, e1, Option.bind_some]; simp only [if_pos c0, f1, Option.bind_some], by omega, by omega⟩
  · by_cases c1 : p = 1
    · exact ⟨x0, z2, x2, x3, b2, t2, by rw [spec_l1Cur_spoiltJob.f, e1, Option.bind_some]; simp only [if_neg c0, if_pos c1, f2, Option.bind_some], by omega, by omega⟩
    · by_cases c2 : p = 2
      · exact ⟨x0, x1, z3, x3, b3, t3, by rw [spec_l1Cur_spoiltJob.f, e1, Option.bind_some]; simp only [if_neg c0, if_neg c1, if_pos c2, f3, Option.bind_some], by omega, by omega⟩
      · exact ⟨x0, x1, x2, z4, b4, t4, by rw [spec_l1Cur_spoiltJob.f, e1, Option.bind_some]; simp only [if_neg c0, if_neg c1, if_neg c2, f4, Option.bind_some], by omega, by omega⟩
theorem cur_sj_l1 (c : List Int) (hc : Byt c) (b : Bool) : ∀ (d : Nat) (J : List S42) (a s : Int), J.length + d = 9 → 0 ≤ a → a + 8 * (d : Int) ≤ 800000000 → ∃ J' a' s', L (fun k => spec_l1Cur_someJobs.l1 k b J c a s) = some (J', a', s') ∧ J'.length = 9 ∧ a ≤ a' ∧ a' ≤ a + 8 * (d : Int)
  | 0, J, a, s, hd, h0, h1 => by
    refine ⟨J, a, s, ?_, by omega, by omega, by omega⟩
    rw [L_shift]
    simp only [spec_l1Cur_someJobs.l1, if_neg (show ¬ ((J.length : Int) < 9) by omega), L_const]
  | d + 1, J, a, s, hd, h0, h1 => by
    obtain ⟨t, w, r, u, a1, s1, e1, p1, q1⟩ := cur_job c hc a s b h0 (by omega)
    obtain ⟨J', a2, s2, e2, l2, p2, q2⟩ := cur_sj_l1 c hc b d (J ++ [⟨t, w, r, u⟩]) a1 s1 (by simp; omega) (by omega) (by omega)
    refine ⟨J', a2, s2, ?_, l2, by omega, by omega⟩
    rw [L_shift]
    simp only [spec_l1Cur_someJobs.l1, if_pos (show (J.length : Int) < 9 by omega), e1, Option.bind_some, if_pos (show J.length < 4398046511104 by omega), e2]
theorem cur_sj_j5 (c : List Int) (hc : Byt c) (b : Bool) (J : List S42) (a s : Int) (hJ : J.length ≤ 9) (h0 : 0 ≤ a) (h1 : a ≤ 700000000) : ∃ J' a' s', L (fun k => spec_l1Cur_someJobs.j5 k b J c a s) = some (J', a', s') ∧ J'.length ≤ 9 ∧ a ≤ a' ∧ a' ≤ a + 80 := by
  obtain ⟨x, a1, s1, e1, p1, q1⟩ := cur_one c hc a s 60 h0 (by omega)
  obtain ⟨J', a2, s2, e2, l2, p2, q2⟩ := cur_sj_l1 c hc b (9 - J.length) J a1 s1 (by omega) (by omega) (by omega)
  cases x with
  | false =>
    refine ⟨J, a1, s1, ?_, hJ, by omega, by omega⟩
    rw [L_shift]
    simp only [spec_l1Cur_someJobs.j5, e1, Option.bind_some, Bool.false_eq_true, if_false, L_const]
  | true =>
    refine ⟨J', a2, s2, ?_, by omega, by omega, by omega⟩
    rw [L_shift]
    simp only [spec_l1Cur_someJobs.j5, e1, Option.bind_some, if_true, e2]
theorem cur_sj_j4 (c : List Int) (hc : Byt c) (b : Bool) (J : List S42) (x : Bool) (a s : Int) (hJ : J.length ≤ 9) (hx : x = true → 0 < J.length) (h0 : 0 ≤ a) (h1 : a ≤ 600000000) : ∃ J' a' s', L (fun k => spec_l1Cur_someJobs.j4 k b J x c a s) = some (J', a', s') ∧ J'.length ≤ 9 ∧ a ≤ a' ∧ a' ≤ a + 90 := by
  cases x with
  | false =>
    obtain ⟨J', a2, s2, e2, l2, p2, q2⟩ := cur_sj_j5 c hc b J a s hJ h0 (by omega)
    refine ⟨J', a2, s2, ?_, l2, by omega, by omega⟩
    rw [L_shift]
    simp only [spec_l1Cur_someJobs.j4, Bool.false_eq_true, if_false, e2]
  | true =>
    have hp := hx rfl
    obtain ⟨p, a1, s1, e1, r0, r1, p1, q1⟩ := cur_pick c hc a s (J.length : Int) h0 (by omega)
    have hpl : p < (J.length : Int) := by omega
    obtain ⟨t, w, r, u, a3, s3, e3, p3, q3⟩ := cur_spoilt c hc a1 s1 (rd_T42 J p).f0 (rd_T42 J p).f1 (rd_T42 J p).f2 (rd_T42 J p).f3 (by omega) (by omega)
    obtain ⟨J', a2, s2, e2, l2, p2, q2⟩ := cur_sj_j5 c hc b (J.set p.toNat ⟨t, w, r, u⟩) a3 s3 (by rw [List.length_set]; exact hJ) (by omega) (by omega)
    refine ⟨J', a2, s2, ?_, l2, by omega, by omega⟩
    rw [L_shift]
    simp only [spec_l1Cur_someJobs.j4, if_true, e1, Option.bind_some, if_pos r0, if_pos hpl, e3, e2]
theorem cur_sj_j3 (c : List Int) (hc : Byt c) (b : Bool) (J : List S42) (a s : Int) (hJ : J.length ≤ 9) (h0 : 0 ≤ a) (h1 : a ≤ 500000000) : ∃ J' a' s', L (fun k => spec_l1Cur_someJobs.j3 k b J c a s) = some (J', a', s') ∧ J'.length ≤ 9 ∧ a ≤ a' ∧ a' ≤ a + 100 := by
  by_cases hp : (J.length : Int) > 0
  · obtain ⟨x, a1, s1, e1, p1, q1⟩ := cur_one c hc a s 20 h0 (by omega)
    obtain ⟨J', a2, s2, e2, l2, p2, q2⟩ := cur_sj_j4 c hc b J x a1 s1 hJ (fun _ => by omega) (by omega) (by omega)
    refine ⟨J', a2, s2, ?_, l2, by omega, by omega⟩
    rw [L_shift]
    simp only [spec_l1Cur_someJobs.j3, if_pos hp, e1, Option.bind_some, e2]
  · obtain ⟨J', a2, s2, e2, l2, p2, q2⟩ := cur_sj_j4 c hc b J false a s hJ (fun h => by cases h) h0 (by omega)
    refine ⟨J', a2, s2, ?_, l2, by omega, by omega⟩
    rw [L_shift]
    simp only [spec_l1Cur_someJobs.j3, if_neg hp, e2]
theorem cur_sj_l0 (c : List Int) (hc : Byt c) (b : Bool) (m : Int) : ∀ (d : Nat) (J : List S42) (a s : Int), J.length + d ≤ 9 → 0 ≤ a → a + 8 * (d : Int) ≤ 400000000 → ∃ J' a' s', L (fun k => spec_l1Cur_someJobs.l0 k b m J (d : Int) c a s) = some (J', a', s') ∧ J'.length ≤ 9 ∧ a ≤ a' ∧ a' ≤ a + 8 * (d : Int) + 100
  | 0, J, a, s, hd, h0, h1 => by
    obtain ⟨J', a2, s2, e2, l2, p2, q2⟩ := cur_sj_j3 c hc b J a s (by omega) h0 (by omega)
    refine ⟨J', a2, s2, ?_, l2, by omega, by omega⟩
    rw [L_shift]
    simp only [spec_l1Cur_someJobs.l0, if_neg (show ¬ (((0 : Nat) : Int) > 0) by omega), e2]
  | d + 1, J, a, s, hd, h0, h1 => by
    by_cases hm : (J.length : Int) < m
    · obtain ⟨t, w, r, u, a1, s1, e1, p1, q1⟩ := cur_job c hc a s b h0 (by omega)
      obtain ⟨J', a2, s2, e2, l2, p2, q2⟩ := cur_sj_l0 c hc b m d (J ++ [⟨t, w, r, u⟩]) a1 s1 (by simp; omega) (by omega) (by omega)
      refine ⟨J', a2, s2, ?_, l2, by omega, by omega⟩
      have ew : wrap64 (((d + 1 : Nat) : Int) - 1) = (d : Int) := by rw [wrap_id (by omega) (by omega)]; omega
      rw [L_shift]
      simp only [spec_l1Cur_someJobs.l0, if_pos (show (((d + 1 : Nat) : Int) > 0) by omega), if_pos hm, e1, Option.bind_some, if_pos (show J.length < 4398046511104 by omega), ew, e2]
    · obtain ⟨J', a2, s2, e2, l2, p2, q2⟩ := cur_sj_j3 c hc b J a s (by omega) h0 (by omega)
      refine ⟨J', a2, s2, ?_, l2, by omega, by omega⟩
      rw [L_shift]
      simp only [spec_l1Cur_someJobs.l0, if_pos (show (((d + 1 : Nat) : Int) > 0) by omega), if_neg hm, e2]
theorem cur_someJobs (c : List Int) (hc : Byt c) (b : Bool) (m : Int) (hm : m ≤ 8) (a s : Int) (h0 : 0 ≤ a) (h1 : a ≤ 300000000) : ∃ J' a' s', L (fun k => spec_l1Cur_someJobs.f k c a s b m) = some (J', a', s') ∧ J'.length ≤ 9 ∧ a ≤ a' ∧ a' ≤ a + 200 := by
  obtain ⟨z, a1, s1, e1, hz, p1, q1⟩ := cur_among c hc [3, 4, 5, 2, 6, 1, 0] (by decide) a s h0 (by omega)
  have hz2 : 0 ≤ z ∧ z ≤ 6 := by
    simp only [List.mem_cons, List.not_mem_nil, or_false] at hz
    omega
  have hj1 : ∀ (n : Nat) (a s : Int), n ≤ 8 → 0 ≤ a → a ≤ 300000100 → ∃ J' a' s', L (fun k => spec_l1Cur_someJobs.j1 k b m [] (n : Int) c a s) = some (J', a', s') ∧ J'.length ≤ 9 ∧ a ≤ a' ∧ a' ≤ a + 170 := fun n a s hn h0 h1 => by
    obtain ⟨J', a2, s2, e2, l2, p2, q2⟩ := cur_sj_l0 c hc b m n [] a s (by simp; omega) h0 (by omega)
    refine ⟨J', a2, s2, ?_, l2, by omega, by omega⟩
    rw [L_shift]
    simp only [spec_l1Cur_someJobs.j1, e2]
  have hj0 : ∀ (x : Bool) (a s : Int), 0 ≤ a → a ≤ 300000050 → ∃ J' a' s', L (fun k => spec_l1Cur_someJobs.j0 k b m [] z x c a s) = some (J', a', s') ∧ J'.length ≤ 9 ∧ a ≤ a' ∧ a' ≤ a + 180 := fun x a s h0 h1 => by
    cases x with
    | false =>
      obtain ⟨J', a2, s2, e2, l2, p2, q2⟩ := hj1 z.toNat a s (by omega) h0 (by omega)
      rw [Int.toNat_of_nonneg hz2.1] at e2
      refine ⟨J', a2, s2, ?_, l2, by omega, by omega⟩
      rw [L_shift]
      simp only [spec_l1Cur_someJobs.j0, Bool.false_eq_true, if_false, e2]
    | true =>
      obtain ⟨p, a3, s3, e3, r0, r1, p3, q3⟩ := cur_pick c hc a s 2 h0 (by omega)
      have ew : wrap64 (7 + p) = ((7 + p.toNat : Nat) : Int) := by rw [wrap_id (by omega) (by omega)]; omega
      obtain ⟨J', a2, s2, e2, l2, p2, q2⟩ := hj1 (7 + p.toNat) a3 s3 (by omega) (by omega) (by omega)
      refine ⟨J', a2, s2, ?_, l2, by omega, by omega⟩
      rw [L_shift]
      simp only [spec_l1Cur_someJobs.j0, if_true, e3, Option.bind_some, ew, e2]
  by_cases h6 : m > 6
  · obtain ⟨x, a3, s3, e3, p3, q3⟩ := cur_one c hc a1 s1 6 (by omega) (by omega)
    obtain ⟨J', a2, s2, e2, l2, p2, q2⟩ := hj0 x a3 s3 (by omega) (by omega)
    refine ⟨J', a2, s2, ?_, l2, by omega, by omega⟩
    simp only [spec_l1Cur_someJobs.f, Option.bind_some, e1, if_pos h6, e3, e2]
  · obtain ⟨J', a2, s2, e2, l2, p2, q2⟩ := hj0 false a1 s1 (by omega) (by omega)
    refine ⟨J', a2, s2, ?_, l2, by omega, by omega⟩
    simp only [spec_l1Cur_someJobs.f, Option.bind_some, e1, if_neg h6, e2]
theorem cur_jobs (c : List Int) (hc : Byt c) (a s : Int) (h0 : 0 ≤ a) (h1 : a ≤ 200000000) : ∃ J' a' s', L (fun k => spec_l1Cur_jobs.f k c a s) = some (J', a', s') ∧ J'.length ≤ 9 ∧ a ≤ a' ∧ a' ≤ a + 210 := by
  obtain ⟨x, a1, s1, e1, p1, q1⟩ := cur_one c hc a s 2 h0 (by omega)
  obtain ⟨J', a2, s2, e2, l2, p2, q2⟩ := cur_someJobs c hc x 6 (by omega) a1 s1 (by omega) (by omega)
  refine ⟨J', a2, s2, ?_, l2, by omega, by omega⟩
  simp only [spec_l1Cur_jobs.f, e1, Option.bind_some, L_bind, e2, L_const]
theorem cur_p3_l (c : List Int) (hc : Byt c) : ∀ (d i : Nat) (J : List S42) (a s : Int), i + d = J.length → J.length ≤ 9 → 0 ≤ a → a + 2 * (d : Int) ≤ 300000000 → ∃ J' a' s', L (fun k => spec_l1Cur_plain3.l0 k J (i : Int) c a s) = some (J', a', s') ∧ J'.length = J.length ∧ a ≤ a' ∧ a' ≤ a + 2 * (d : Int)
  | 0, i, J, a, s, hd, hJ, h0, h1 => by
    refine ⟨J, a, s, ?_, rfl, by omega, by omega⟩
    rw [L_shift]
    simp only [spec_l1Cur_plain3.l0, if_neg (show ¬ ((i : Int) < (J.length : Int)) by omega), L_const]
  | d + 1, i, J, a, s, hd, hJ, h0, h1 => by
    have ew : wrap64 ((i : Int) + 1) = ((i + 1 : Nat) : Int) := by rw [wrap_id (by omega) (by omega)]; omega
    have ew2 : wrap64 ((i : Int) - 1) = (i : Int) - 1 := wrap_id (by omega) (by omega)
    have again := fun (J2 : List S42) (a2 s2 : Int) (hl : J2.length = J.length) (ha : 0 ≤ a2) (hb : a2 + 2 * (d : Int) ≤ 300000000) => cur_p3_l c hc d (i + 1) J2 a2 s2 (by omega) (by omega) ha hb
    by_cases hi : (i : Int) > 0
    · obtain ⟨x, a1, s1, e1, p1, q1⟩ := cur_one c hc a s 3 h0 (by omega)
      cases x with
      | false =>
        obtain ⟨J', a2, s2, e2, l2, p2, q2⟩ := again (J.set (i : Int).toNat ⟨(rd_T42 J (i : Int)).f0, (rd_T42 J (i : Int)).f1, 0, (rd_T42 J (i : Int)).f3⟩) a1 s1 (by rw [List.length_set]) (by omega) (by omega)
        refine ⟨J', a2, s2, ?_, by rw [l2, List.length_set], by omega, by omega⟩
        rw [L_shift]
        simp only [spec_l1Cur_plain3.l0, if_pos (show (i : Int) < (J.length : Int) by omega), le_nat, if_true, Option.bind_some, if_pos hi, e1, Bool.false_eq_true, if_false, ew, e2]
      | true =>
        have again2 := fun (J2 : List S42) (hl : J2.length = J.length) => again J2 a1 s1 hl (by omega) (by omega)
        rw [L_shift]
        simp only [spec_l1Cur_plain3.l0, if_pos (show (i : Int) < (J.length : Int) by omega), le_nat, if_true, Option.bind_some, if_pos hi, e1, ew2, if_pos (show (0 : Int) ≤ (i : Int) - 1 by omega), if_pos (show (i : Int) - 1 < (J.length : Int) by omega), ew]
        generalize hJ3 : List.set (List.set (List.set J (i : Int).toNat _) (i : Int).toNat _) (i : Int).toNat _ = J3
        have hl3 : J3.length = J.length := by rw [← hJ3]; simp
        obtain ⟨J', a2, s2, e2, l2, p2, q2⟩ := again2 J3 hl3
        exact ⟨J', a2, s2, e2, by rw [l2, hl3], by omega, by omega⟩
    · obtain ⟨J', a2, s2, e2, l2, p2, q2⟩ := again (J.set (i : Int).toNat ⟨(rd_T42 J (i : Int)).f0, (rd_T42 J (i : Int)).f1, 0, (rd_T42 J (i : Int)).f3⟩) a s (by rw [List.length_set]) h0 (by omega)
      refine ⟨J', a2, s2, ?_, by rw [l2, List.length_set], by omega, by omega⟩
      rw [L_shift]
      simp only [spec_l1Cur_plain3.l0, if_pos (show (i : Int) < (J.length : Int) by omega), le_nat, if_true, Option.bind_some, if_neg hi, ew, e2]
theorem cur_plain3 (c : List Int) (hc : Byt c) (a s : Int) (h0 : 0 ≤ a) (h1 : a ≤ 100000000) : ∃ J' a' s', L (fun k => spec_l1Cur_plain3.f k c a s) = some (J', a', s') ∧ J'.length ≤ 9 ∧ a ≤ a' ∧ a' ≤ a + 240 := by
  obtain ⟨J, a1, s1, e1, l1, p1, q1⟩ := cur_jobs c hc a s h0 (by omega)
  obtain ⟨x, a2, s2, e2, p2, q2⟩ := cur_one c hc a1 s1 24 (by omega) (by omega)
  cases x with
  | true =>
    refine ⟨J, a2, s2, ?_, l1, by omega, by omega⟩
    simp only [spec_l1Cur_plain3.f, L_bind, e1, Option.bind_some, e2, L_const, if_true]
  | false =>
    obtain ⟨J', a3, s3, e3, l3, p3, q3⟩ := cur_p3_l c hc J.length 0 J a2 s2 (by omega) l1 (by omega) (by omega)
    have e0 : ((0 : Nat) : Int) = 0 := rfl
    rw [e0] at e3
    refine ⟨J', a3, s3, ?_, by omega, by omega, by omega⟩
    simp only [spec_l1Cur_plain3.f, L_bind, e1, Option.bind_some, e2, L_const, Bool.false_eq_true, if_false, e3]
theorem cur_order_go (c : List Int) (hc : Byt c) : ∀ (d i : Nat) (out : List Int) (a s : Int), 0 ≤ a → a + 2 * (d : Int) ≤ 800000000 → out.length + d ≤ 1000 → ∃ O a' s', spec_l1Cur_order.go c d i out a s = some (O, a', s') ∧ O.length = out.length + d ∧ a ≤ a' ∧ a' ≤ a + 2 * (d : Int)
  | 0, i, out, a, s, h0, h1, hl => ⟨out, a, s, rfl, rfl, by omega, by omega⟩
  | d + 1, i, out, a, s, h0, h1, hl => by
    obtain ⟨p, a1, s1, e1, r0, r1, p1, q1⟩ := cur_pick c hc a s ((out.length : Int) + 1) h0 (by omega)
    have hp : 0 ≤ p ∧ p ≤ (out.length : Int) := by omega
    have hlen : (out.take p.toNat ++ (i : Int) :: out.drop p.toNat).length = out.length + 1 := by simp; omega
    obtain ⟨O, a2, s2, e2, l2, p2, q2⟩ := cur_order_go c hc d (i + 1) (out.take p.toNat ++ (i : Int) :: out.drop p.toNat) a1 s1 (by omega) (by omega) (by omega)
    refine ⟨O, a2, s2, ?_, by omega, by omega, by omega⟩
    rw [spec_l1Cur_order.go, e1, Option.bind_some]
    simp only [if_pos hp]
    exact e2
theorem cur_order (c : List Int) (hc : Byt c) (a s n : Int) (hn0 : 0 ≤ n) (hn : n ≤ 100) (h0 : 0 ≤ a) (h1 : a ≤ 700000000) : ∃ O a' s', spec_l1Cur_order.f c a s n = some (O, a', s') ∧ O.length ≤ 200 ∧ a ≤ a' ∧ a' ≤ a + 300 := by
  obtain ⟨O, a1, s1, e1, l1, p1, q1⟩ := cur_order_go c hc n.toNat 0 [] a s h0 (by omega) (by simp; omega)
  obtain ⟨x, a2, s2, e2, p2, q2⟩ := cur_one c hc a1 s1 30 (by omega) (by omega)
  obtain ⟨z, a3, s3, e3, _, p3, q3⟩ := cur_among c hc [0, n, -1] (by simp) a2 s2 (by omega) (by omega)
  simp only [List.length_nil] at l1
  cases x with
  | false =>
    refine ⟨O, a2, s2, ?_, by omega, by omega, by omega⟩
    simp only [spec_l1Cur_order.f, if_pos (show n ≤ 1000 by omega), e1, Option.bind_some, e2, Bool.false_eq_true, if_false]
  | true =>
    refine ⟨O ++ [z], a3, s3, ?_, by simp; omega, by omega, by omega⟩
    simp only [spec_l1Cur_order.f, if_pos (show n ≤ 1000 by omega), e1, Option.bind_some, e2, if_true, e3]
theorem nowF_app (l : List S42) : ∀ (p r : List Int) (now : Int), nowF l (p ++ r) now = nowF l r (nowF l p now)
  | [], r, now => rfl
  | x :: p, r, now => nowF_app l p r _
theorem endsF_skip (l : List S42) : ∀ (r E : List Int) (now : Int) (j : Nat), (∀ y ∈ r, y.toNat ≠ j) → (endsF l r E now).getD j 0 = E.getD j 0
  | [], E, now, j, h => rfl
  | y :: r, E, now, j, h => by
    rw [endsF, endsF_skip l r _ _ j (fun z hz => h z (List.mem_cons_of_mem _ hz)), getD_set, if_neg (fun q => h y List.mem_cons_self q.1)]
theorem endsF_at (l : List S42) (x : Int) (r : List Int) (hr : ∀ y ∈ r, y.toNat ≠ x.toNat) : ∀ (p E : List Int) (now : Int), x.toNat < E.length → (endsF l (p ++ x :: r) E now).getD x.toNat 0 = nowF l (p ++ [x]) now
  | [], E, now, hE => by
    rw [List.nil_append, endsF, endsF_skip l r _ _ _ hr, getD_set, if_pos ⟨rfl, hE⟩]
    rfl
  | y :: p, E, now, hE => by
    rw [List.cons_append, endsF, endsF_at l x r hr p _ _ (by rw [List.length_set]; exact hE)]
    rfl
theorem vInts_l (l : List Int) (hl : l.length ≤ 2000000) : ∀ (r pre : List Int), l = pre ++ r → L (fun k => laws_vInts.l0 k l l (pre.length : Int)) = some true
  | [], pre, e => by
    rw [List.append_nil] at e
    rw [L_shift]
    simp only [laws_vInts.l0, if_neg (show ¬ ((pre.length : Int) < (l.length : Int)) by rw [e]; omega), L_const]
  | x :: r, pre, e => by
    have hl2 : l.length = pre.length + (r.length + 1) := by rw [e]; simp
    have ew : wrap64 ((pre.length : Int) + 1) = ((pre ++ [x]).length : Int) := wrap_mid pre x (by omega)
    rw [L_shift]
    simp only [laws_vInts.l0, if_pos (show (pre.length : Int) < (l.length : Int) by omega), le_nat, if_true, ew]
    exact vInts_l l hl r (pre ++ [x]) (by rw [e]; simp)
theorem vInts_L (l : List Int) (hl : l.length ≤ 2000000) : L (fun k => laws_vInts.f k l l) = some true := by
  simp only [laws_vInts.f, if_true]
  exact vInts_l l hl l [] rfl
theorem l3Wrong_l (l : List S42) (obj : Int) (hg : Good l) : ∀ (r pre : List Int), (pre ++ r).length < 1000000 → (∀ x ∈ r, 0 ≤ x ∧ x < (l.length : Int)) → L (fun k => spec_l3Wrong.l0 k l (pre ++ r) obj (pre.length : Int)) = some (firstW (wrongB l obj) pre.length r)
  | [], pre, hb, hr => by
    rw [L_shift]
    simp only [List.append_nil] at hb
    simp only [spec_l3Wrong.l0, List.append_nil, wrap_id (show -9223372036854775808 ≤ (pre.length : Int) + 1 by omega) (show (pre.length : Int) + 1 ≤ 9223372036854775807 by omega), if_neg (show ¬ ((pre.length : Int) + 1 < (pre.length : Int)) by omega), L_const, firstW]
  | [x], pre, hb, hr => by
    rw [L_shift]
    have hl : (pre ++ [x]).length = pre.length + 1 := by simp
    simp only [spec_l3Wrong.l0, wrap_id (show -9223372036854775808 ≤ (pre.length : Int) + 1 by omega) (show (pre.length : Int) + 1 ≤ 9223372036854775807 by omega), if_neg (show ¬ ((pre.length : Int) + 1 < ((pre ++ [x]).length : Int)) by omega), L_const, firstW]
  | x :: y :: r, pre, hb, hr => by
    rw [L_shift]
    have hl : (pre ++ x :: y :: r).length = pre.length + (r.length + 2) := by simp
    have hx := hr x List.mem_cons_self
    have hy := hr y (List.mem_cons_of_mem _ List.mem_cons_self)
    have ih := l3Wrong_l l obj hg (y :: r) (pre ++ [x]) (by simpa using hb) (fun z hz => hr z (List.mem_cons_of_mem _ hz))
    have e : ((pre ++ [x]).length : Int) = (pre.length : Int) + 1 := by simp
    rw [e, ← app_cons] at ih
    simp only [spec_l3Wrong.l0, wrap_id (show -9223372036854775808 ≤ (pre.length : Int) + 1 by omega) (show (pre.length : Int) + 1 ≤ 9223372036854775807 by omega), if_pos (show ((pre.length : Int) + 1 < ((pre ++ x :: y :: r).length : Int)) by omega), if_pos (show ((pre.length : Int) < ((pre ++ x :: y :: r).length : Int)) by omega), le_nat, if_true, if_pos (show (0 : Int) ≤ (pre.length : Int) + 1 by omega), rd_mid, rd_mid2, l3Gap_e l obj x y hg hx hy, Option.bind_some, L_ite, L_const, ih, firstW, wrongB, decide_eq_true_eq]
    simp only [List.length_append, List.length_cons, List.length_nil]
    split <;> rfl
theorem l3Wrong_L (l : List S42) (obj : Int) (hg : Good l) (o : List Int) (hb : o.length < 1000000) (hr : ∀ x ∈ o, 0 ≤ x ∧ x < (l.length : Int)) : L (fun k => spec_l3Wrong.f k l o obj) = some (firstW (wrongB l obj) 0 o) := by
  have := l3Wrong_l l obj hg o [] (by simpa using hb) hr
  simpa [spec_l3Wrong.f] using this
/-- What the program does from a place on: it looks for the first wrong neighbors. -/
theorem sort_scan (l : List S42) (obj : Int) (hg : Good l) (P : List Int) (hP : P.length < 1000000) : ∀ (r pre : List Int), (pre ++ r).length ≤ 8 → (∀ x ∈ r, 0 ≤ x ∧ x < (l.length : Int)) →
    (firstW (wrongB l obj) pre.length r = -1 ∧ L (fun k => impl_SortingExchanges.l0 k l obj (pre ++ r) P (pre.length : Int)) = some (P, pre ++ r, true)) ∨
    ∃ (pre' : List Int) (x y : Int) (r' : List Int), pre ++ r = pre' ++ x :: y :: r' ∧ wrongB l obj x y = true ∧ firstW (wrongB l obj) pre.length r = (pre'.length : Int) ∧
      L (fun k => impl_SortingExchanges.l0 k l obj (pre ++ r) P (pre.length : Int)) = L (fun k => impl_SortingExchanges.l0 k l obj (pre' ++ y :: x :: r') (P ++ [(pre'.length : Int)]) 0)
  | [], pre, hb, hr => by
    left
    simp only [List.append_nil] at hb
    refine ⟨rfl, ?_⟩
    rw [L_shift]
    simp only [impl_SortingExchanges.l0, List.append_nil, wrap_id (show -9223372036854775808 ≤ (pre.length : Int) + 1 by omega) (show (pre.length : Int) + 1 ≤ 9223372036854775807 by omega), if_neg (show ¬ ((pre.length : Int) + 1 < (pre.length : Int)) by omega), L_const]
  | [x], pre, hb, hr => by
    left
    refine ⟨rfl, ?_⟩
    rw [L_shift]
    have hl : (pre ++ [x]).length = pre.length + 1 := by simp
    simp only [impl_SortingExchanges.l0, wrap_id (show -9223372036854775808 ≤ (pre.length : Int) + 1 by omega) (show (pre.length : Int) + 1 ≤ 9223372036854775807 by omega), if_neg (show ¬ ((pre.length : Int) + 1 < ((pre ++ [x]).length : Int)) by omega), L_const]
  | x :: y :: r, pre, hb, hr => by
    have hl : (pre ++ x :: y :: r).length = pre.length + (r.length + 2) := by simp
    have hx := hr x List.mem_cons_self
    have hy := hr y (List.mem_cons_of_mem _ List.mem_cons_self)
    have hjx := hg.2 _ (jobAt_mem hx.1 hx.2)
    have hjy := hg.2 _ (jobAt_mem hy.1 hy.2)
    have e1 : rd_T42 l x = jobAt l x := rfl
    have e2 : rd_T42 l y = jobAt l y := rfl
    have e3 : gapJ obj (jobAt l y) (jobAt l x) = - gapI l obj x y := gapI_neg l obj x y
    have ih := sort_scan l obj hg P hP (y :: r) (pre ++ [x]) (by simpa using hb) (fun z hz => hr z (List.mem_cons_of_mem _ hz))
    have e : ((pre ++ [x]).length : Int) = (pre.length : Int) + 1 := by simp
    have step : L (fun k => impl_SortingExchanges.l0 k l obj (pre ++ x :: y :: r) P (pre.length : Int)) = if gapI l obj x y ≤ 0 then L (fun k => impl_SortingExchanges.l0 k l obj (pre ++ x :: y :: r) P ((pre.length : Int) + 1)) else L (fun k => impl_SortingExchanges.l0 k l obj (pre ++ y :: x :: r) (P ++ [(pre.length : Int)]) 0) := by
      rw [L_shift]
      simp only [impl_SortingExchanges.l0, wrap_id (show -9223372036854775808 ≤ (pre.length : Int) + 1 by omega) (show (pre.length : Int) + 1 ≤ 9223372036854775807 by omega), if_pos (show ((pre.length : Int) + 1 < ((pre ++ x :: y :: r).length : Int)) by omega), if_pos (show ((pre.length : Int) < ((pre ++ x :: y :: r).length : Int)) by omega), le_nat, if_true, if_pos (show (0 : Int) ≤ (pre.length : Int) + 1 by omega), rd_mid, rd_mid2, if_pos hx.1, if_pos hx.2, if_pos hy.1, if_pos hy.2, e1, e2, difference_e _ _ obj hjy hjx, e3, Option.bind_some, exchanged_e pre x y r (by omega), if_pos (show P.length < 17592186044416 by omega), L_ite]
      by_cases hc : gapI l obj x y ≤ 0
      · rw [if_pos (by omega), if_pos hc]
      · rw [if_neg (by omega), if_neg hc]
    rw [step]
    by_cases hc : gapI l obj x y ≤ 0
    · have hw : wrongB l obj x y = false := decide_eq_false (by omega)
      rw [if_pos hc]
      rw [e, ← app_cons] at ih
      have ef : firstW (wrongB l obj) pre.length (x :: y :: r) = firstW (wrongB l obj) (pre.length + 1) (y :: r) := by
        rw [firstW, hw]
        rfl
      rw [ef]
      have eg : (pre ++ [x]).length = pre.length + 1 := by simp
      rw [eg] at ih
      rcases ih with ⟨h1, h2⟩ | ⟨pre', x', y', r', h1, h2, h3, h4⟩
      · exact .inl ⟨h1, h2⟩
      · exact .inr ⟨pre', x', y', r', h1, h2, h3, h4⟩
    · have hw : wrongB l obj x y = true := decide_eq_true (by omega)
      right
      refine ⟨pre, x, y, r, rfl, hw, ?_, ?_⟩
      · rw [firstW, hw]
        rfl
      · rw [if_neg hc]
/-- What an end counts for the objectives that are a greatest number. -/
def dM (obj : Int) (j : S42) (e : Int) : Int := if obj = 1 then e else e - j.f3
theorem valF_le (obj : Int) (ho : obj = 1 ∨ obj = 4) (B : Int) : ∀ (l : List S42) (es : List Int) (v : Int) (b : Bool), es.length = l.length → (b = false → v ≤ B) → (obj = 1 → v ≤ B) → (l = [] → v ≤ B) → (∀ i : Nat, i < l.length → dM obj (l.getD i z42) (es.getD i 0) ≤ B) → valF obj v b l es ≤ B
  | [], es, v, b, _, _, _, h, _ => by
    rw [valF]
    exact h rfl
  | j :: l, [], v, b, h, _, _, _, _ => by simp at h
  | j :: l, e :: es, v, b, h, hb, h1, _, hi => by
    have h0 := hi 0 (by simp)
    simp only [List.getD_cons_zero] at h0
    have hv : addF v j e obj b ≤ B := by
      unfold addF
      unfold dM at h0
      rcases ho with rfl | rfl
      · have := h1 rfl
        simp only [if_true] at h0 ⊢
        omega
      · simp only [show ¬ ((4 : Int) = 1) by decide, show ¬ ((4 : Int) = 2) by decide, show ¬ ((4 : Int) = 3) by decide, if_false, if_true] at h0 ⊢
        cases b with
        | true => simpa using h0
        | false =>
          have := hb rfl
          simp only [Bool.false_eq_true, if_false]
          omega
    rw [valF]
    exact valF_le obj ho B l es _ false (by simpa using h) (fun _ => hv) (fun _ => hv) (fun _ => hv) (fun i hi2 => by
      have := hi (i + 1) (by simp; omega)
      simpa using this)
theorem valF_ge0 (obj : Int) (ho : obj = 1 ∨ obj = 4) : ∀ (l : List S42) (es : List Int) (v : Int), v ≤ valF obj v false l es
  | [], es, v => by simp [valF]
  | j :: l, [], v => by simp [valF]
  | j :: l, e :: es, v => by
    have h := valF_ge0 obj ho l es (addF v j e obj false)
    rw [valF]
    refine Int.le_trans ?_ h
    unfold addF
    rcases ho with rfl | rfl
    · simp only [if_true]
      omega
    · simp only [show ¬ ((4 : Int) = 1) by decide, show ¬ ((4 : Int) = 2) by decide, show ¬ ((4 : Int) = 3) by decide, if_false, if_true, Bool.false_eq_true]
      omega
theorem valF_ge (obj : Int) (ho : obj = 1 ∨ obj = 4) : ∀ (l : List S42) (es : List Int) (v : Int) (b : Bool), es.length = l.length → ∀ i : Nat, i < l.length → dM obj (l.getD i z42) (es.getD i 0) ≤ valF obj v b l es
  | [], es, v, b, _, i, hi => by simp at hi
  | j :: l, [], v, b, h, _, _ => by simp at h
  | j :: l, e :: es, v, b, h, 0, hi => by
    have h2 := valF_ge0 obj ho l es (addF v j e obj b)
    rw [valF]
    refine Int.le_trans ?_ h2
    simp only [List.getD_cons_zero]
    unfold addF dM
    rcases ho with rfl | rfl
    · simp only [if_true]
      omega
    · simp only [show ¬ ((4 : Int) = 1) by decide, show ¬ ((4 : Int) = 2) by decide, show ¬ ((4 : Int) = 3) by decide, if_false, if_true]
      cases b <;> simp <;> omega
  | j :: l, e :: es, v, b, h, i + 1, hi => by
    have := valF_ge obj ho l es (addF v j e obj b) false (by simpa using h) i (by simpa using hi)
    rw [valF]
    simpa using this
/-- What an end counts for the objectives that are a sum. -/
def cS (obj : Int) (j : S42) (e : Int) : Int := if obj = 2 then e else j.f1 * e
theorem addF_sum (obj : Int) (ho : obj = 2 ∨ obj = 3) (v : Int) (j : S42) (e : Int) (b : Bool) : addF v j e obj b = v + cS obj j e := by
  unfold addF cS
  rcases ho with rfl | rfl
  · simp
  · simp
theorem valF_shift (obj : Int) (ho : obj = 2 ∨ obj = 3) (d : Int) : ∀ (l : List S42) (es : List Int) (v : Int) (b : Bool), valF obj (v + d) b l es = valF obj v b l es + d
  | [], es, v, b => by simp [valF]
  | j :: l, [], v, b => by simp [valF]
  | j :: l, e :: es, v, b => by
    rw [valF, valF, addF_sum obj ho, addF_sum obj ho, ← valF_shift obj ho d l es (v + cS obj j e) false]
    congr 1
    omega
theorem valF_set (obj : Int) (ho : obj = 2 ∨ obj = 3) (a : Int) : ∀ (l : List S42) (es : List Int) (v : Int) (b : Bool) (i : Nat), es.length = l.length → i < l.length → valF obj v b l (es.set i a) = valF obj v b l es - cS obj (l.getD i z42) (es.getD i 0) + cS obj (l.getD i z42) a
  | [], es, v, b, i, _, hi => by simp at hi
  | j :: l, [], v, b, _, h, _ => by simp at h
  | j :: l, e :: es, v, b, 0, h, hi => by
    rw [List.set_cons_zero, valF, valF, addF_sum obj ho, addF_sum obj ho, valF_shift obj ho, valF_shift obj ho]
    simp only [List.getD_cons_zero]
    omega
  | j :: l, e :: es, v, b, i + 1, h, hi => by
    rw [List.set_cons_succ, valF, valF, valF_set obj ho a l es _ false i (by simpa using h) (by simpa using hi)]
    simp
theorem ends_at {l : List S42} {p r : List Int} {z : Int} (ho : IsOrd l.length (p ++ z :: r)) : (endsP l (p ++ z :: r)).getD z.toNat 0 = nowF l (p ++ [z]) 0 := by
  have hb := ho.2.1
  have hz := hb z (by simp)
  have hnd := (List.nodup_append.1 ho.2.2).2.1
  rw [List.nodup_cons] at hnd
  refine endsF_at l z r (fun y hy e => hnd.1 ?_) p _ 0 (by rw [List.length_replicate]; omega)
  have hy2 := hb y (by simp [hy])
  have : y = z := by omega
  rwa [← this]
theorem nowF_mono (l : List S42) : ∀ (o : List Int) (a b : Int), a ≤ b → nowF l o a ≤ nowF l o b
  | [], a, b, h => h
  | x :: o, a, b, h => by
    rw [nowF, nowF]
    exact nowF_mono l o _ _ (by omega)
theorem nowF_nonneg (l : List S42) (hg : Good l) : ∀ (o : List Int) (a : Int), (∀ x ∈ o, 0 ≤ x ∧ x < (l.length : Int)) → 0 ≤ a → 0 ≤ nowF l o a
  | [], a, _, h => h
  | x :: o, a, ho, h => by
    have hx := ho x List.mem_cons_self
    have hj := hg.2 _ (jobAt_mem hx.1 hx.2)
    have t0 := hj.t0
    rw [nowF]
    exact nowF_nonneg l hg o _ (fun y hy => ho y (List.mem_cons_of_mem _ hy)) (by omega)
theorem exch_max (l : List S42) (obj : Int) (hobj : obj = 1 ∨ obj = 4) (hg : Good l) (hp : obj = 4 → ∀ j ∈ l, j.f2 = 0) (pre : List Int) (x y : Int) (r : List Int) (ho : IsOrd l.length (pre ++ x :: y :: r)) (hgap : 0 ≤ gapI l obj x y) : valO l obj (pre ++ y :: x :: r) ≤ valO l obj (pre ++ x :: y :: r) := by
  have ho2 := IsOrd.swap ho
  have hb := ho.2.1
  have hx := hb x (by simp)
  have hy := hb y (by simp)
  have hjx := hg.2 _ (jobAt_mem hx.1 hx.2)
  have hjy := hg.2 _ (jobAt_mem hy.1 hy.2)
  have tx := hjx.t0
  have ty := hjy.t0
  have T0 := nowF_nonneg l hg pre 0 (fun z hz => hb z (by simp [hz])) (by omega)
  have e1x : (endsP l (pre ++ x :: y :: r)).getD x.toNat 0 = nowF l (pre ++ [x]) 0 := ends_at ho
  have e1y : (endsP l (pre ++ x :: y :: r)).getD y.toNat 0 = nowF l (pre ++ [x, y]) 0 := by
    have h : IsOrd l.length ((pre ++ [x]) ++ y :: r) := by simpa using ho
    have := ends_at h
    simpa using this
  have e2y : (endsP l (pre ++ y :: x :: r)).getD y.toNat 0 = nowF l (pre ++ [y]) 0 := ends_at ho2
  have e2x : (endsP l (pre ++ y :: x :: r)).getD x.toNat 0 = nowF l (pre ++ [y, x]) 0 := by
    have h : IsOrd l.length ((pre ++ [y]) ++ x :: r) := by simpa using ho2
    have := ends_at h
    simpa using this
  simp only [nowF_app, nowF] at e1x e1y e2y e2x
  have hgap2 : (obj = 1 ∧ (jobAt l y).f2 ≤ (jobAt l x).f2) ∨ (obj = 4 ∧ (jobAt l x).f2 = 0 ∧ (jobAt l y).f2 = 0 ∧ (jobAt l y).f3 ≤ (jobAt l x).f3) := by
    unfold gapI gapJ at hgap
    rcases hobj with rfl | rfl
    · simp only [if_true] at hgap
      exact .inl ⟨rfl, by omega⟩
    · simp only [show ¬ ((4 : Int) = 1) by decide, show ¬ ((4 : Int) = 2) by decide, show ¬ ((4 : Int) = 3) by decide, if_false] at hgap
      exact .inr ⟨rfl, hp rfl _ (jobAt_mem hx.1 hx.2), hp rfl _ (jobAt_mem hy.1 hy.2), by omega⟩
  have hnow : nowF l (pre ++ [y, x]) 0 ≤ nowF l (pre ++ [x, y]) 0 := by
    simp only [nowF_app, nowF]
    generalize nowF l pre 0 = T at *
    rcases hgap2 with ⟨_, h⟩ | ⟨_, h1, h2, _⟩
    · omega
    · rw [h1, h2]
      omega
  have key : ∀ i : Nat, i < l.length → dM obj (l.getD i z42) ((endsP l (pre ++ y :: x :: r)).getD i 0) ≤ valO l obj (pre ++ x :: y :: r) := by
    intro i hi
    have hge : ∀ k : Nat, k < l.length → dM obj (l.getD k z42) ((endsP l (pre ++ x :: y :: r)).getD k 0) ≤ valO l obj (pre ++ x :: y :: r) := fun k hk => valF_ge obj hobj l _ 0 true (endsP_length l _) k hk
    have hm : (i : Int) ∈ pre ++ x :: y :: r := ho.mem.2 ⟨by omega, by omega⟩
    rw [List.mem_append, List.mem_cons, List.mem_cons] at hm
    rcases hm with hm | hm | hm | hm
    · obtain ⟨p1, p2, e⟩ := List.append_of_mem hm
      have h1 : (endsP l (pre ++ x :: y :: r)).getD i 0 = nowF l (p1 ++ [(i : Int)]) 0 := by
        have h : IsOrd l.length (p1 ++ (i : Int) :: (p2 ++ x :: y :: r)) := by rw [e] at ho; simpa using ho
        have h2 := ends_at h
        rw [e]
        simpa using h2
      have h2 : (endsP l (pre ++ y :: x :: r)).getD i 0 = nowF l (p1 ++ [(i : Int)]) 0 := by
        have h : IsOrd l.length (p1 ++ (i : Int) :: (p2 ++ y :: x :: r)) := by rw [e] at ho2; simpa using ho2
        have h2 := ends_at h
        rw [e]
        simpa using h2
      rw [h2, ← h1]
      exact hge i hi
    · have h1 := hge y.toNat (by omega)
      have ei : i = x.toNat := by omega
      rw [ei, e2x]
      rw [e1y] at h1
      refine Int.le_trans ?_ h1
      show dM obj (jobAt l x) _ ≤ dM obj (jobAt l y) _
      unfold dM
      generalize nowF l pre 0 = T at *
      rcases hgap2 with ⟨e, h⟩ | ⟨e, h1, h2, h3⟩
      · rw [if_pos e, if_pos e]
        omega
      · rw [if_neg (by omega), if_neg (by omega), h1, h2]
        omega
    · have h1 := hge y.toNat (by omega)
      have ei : i = y.toNat := by omega
      rw [ei, e2y]
      rw [e1y] at h1
      refine Int.le_trans ?_ h1
      show dM obj (jobAt l y) _ ≤ dM obj (jobAt l y) _
      unfold dM
      generalize nowF l pre 0 = T at *
      split <;> omega
    · obtain ⟨p1, p2, e⟩ := List.append_of_mem hm
      have h1 : (endsP l (pre ++ x :: y :: r)).getD i 0 = nowF l (p1 ++ [(i : Int)]) (nowF l (pre ++ [x, y]) 0) := by
        have h : IsOrd l.length ((pre ++ x :: y :: p1) ++ (i : Int) :: p2) := by rw [e] at ho; simpa using ho
        have h2 := ends_at h
        rw [e, ← nowF_app]
        simpa using h2
      have h2 : (endsP l (pre ++ y :: x :: r)).getD i 0 = nowF l (p1 ++ [(i : Int)]) (nowF l (pre ++ [y, x]) 0) := by
        have h : IsOrd l.length ((pre ++ y :: x :: p1) ++ (i : Int) :: p2) := by rw [e] at ho2; simpa using ho2
        have h2 := ends_at h
        rw [e, ← nowF_app]
        simpa using h2
      have h3 := nowF_mono l (p1 ++ [(i : Int)]) _ _ hnow
      rw [← h1, ← h2] at h3
      refine Int.le_trans ?_ (hge i hi)
      unfold dM
      split <;> omega
  refine valF_le obj hobj _ l _ 0 true (endsP_length l _) (fun h => by cases h) (fun h => ?_) (fun h => ?_) key
  · subst h
    have := valF_one l (endsP l (pre ++ x :: y :: r)) 0 true (endsP_length l _)
    unfold valO valP
    rw [this]
    have : ∀ (es : List Int) (v : Int), v ≤ maxTo v es := by
      intro es
      induction es with
      | nil => intro v; exact Int.le_refl _
      | cons a es ih =>
        intro v
        exact Int.le_trans (Int.le_max_left v a) (ih (max v a))
    exact this _ 0
  · subst h
    simp at hx
    omega
theorem exch_sum (l : List S42) (obj : Int) (hobj : obj = 2 ∨ obj = 3) (hg : Good l) (hp : ∀ j ∈ l, j.f2 = 0) (pre : List Int) (x y : Int) (r : List Int) (ho : IsOrd l.length (pre ++ x :: y :: r)) (hgap : 0 ≤ gapI l obj x y) : valO l obj (pre ++ y :: x :: r) ≤ valO l obj (pre ++ x :: y :: r) := by
  have ho2 := IsOrd.swap ho
  have hb := ho.2.1
  have hx := hb x (by simp)
  have hy := hb y (by simp)
  have hxy : x.toNat ≠ y.toNat := by
    have hnd := (List.nodup_append.1 ho.2.2).2.1
    rw [List.nodup_cons] at hnd
    intro e
    exact hnd.1 (by rw [show x = y by omega]; simp)
  have hjx := hg.2 _ (jobAt_mem hx.1 hx.2)
  have hjy := hg.2 _ (jobAt_mem hy.1 hy.2)
  have tx := hjx.t0
  have ty := hjy.t0
  have rx := hp _ (jobAt_mem hx.1 hx.2)
  have ry := hp _ (jobAt_mem hy.1 hy.2)
  have T0 := nowF_nonneg l hg pre 0 (fun z hz => hb z (by simp [hz])) (by omega)
  obtain ⟨T, hT⟩ : ∃ T, nowF l pre 0 = T := ⟨_, rfl⟩
  have e1x : (endsP l (pre ++ x :: y :: r)).getD x.toNat 0 = T + (jobAt l x).f0 := by
    rw [ends_at ho, nowF_app, hT, nowF, nowF, rx]
    omega
  have e1y : (endsP l (pre ++ x :: y :: r)).getD y.toNat 0 = T + (jobAt l x).f0 + (jobAt l y).f0 := by
    have h : IsOrd l.length ((pre ++ [x]) ++ y :: r) := by simpa using ho
    have := ends_at h
    rw [show pre ++ x :: y :: r = (pre ++ [x]) ++ y :: r by simp, this]
    simp only [nowF_app, nowF, hT, rx, ry]
    omega
  have e2y : (endsP l (pre ++ y :: x :: r)).getD y.toNat 0 = T + (jobAt l y).f0 := by
    rw [ends_at ho2, nowF_app, hT, nowF, nowF, ry]
    omega
  have e2x : (endsP l (pre ++ y :: x :: r)).getD x.toNat 0 = T + (jobAt l x).f0 + (jobAt l y).f0 := by
    have h : IsOrd l.length ((pre ++ [y]) ++ x :: r) := by simpa using ho2
    have := ends_at h
    rw [show pre ++ y :: x :: r = (pre ++ [y]) ++ x :: r by simp, this]
    simp only [nowF_app, nowF, hT, rx, ry]
    omega
  have hnow : nowF l (pre ++ [y, x]) 0 = nowF l (pre ++ [x, y]) 0 := by
    simp only [nowF_app, nowF, hT, rx, ry]
    omega
  have hE : endsP l (pre ++ y :: x :: r) = ((endsP l (pre ++ x :: y :: r)).set x.toNat (T + (jobAt l x).f0 + (jobAt l y).f0)).set y.toNat (T + (jobAt l y).f0) := by
    refine ext_getD (by rw [List.length_set, List.length_set, endsP_length, endsP_length]) (fun i hi => ?_)
    rw [endsP_length] at hi
    rw [getD_set, getD_set, List.length_set, endsP_length]
    by_cases hiy : y.toNat = i
    · rw [if_pos ⟨hiy, hi⟩, ← hiy, e2y]
    · rw [if_neg (fun h => hiy h.1)]
      by_cases hix : x.toNat = i
      · rw [if_pos ⟨hix, hi⟩, ← hix, e2x]
      · rw [if_neg (fun h => hix h.1)]
        have hm : (i : Int) ∈ pre ++ x :: y :: r := ho.mem.2 ⟨by omega, by omega⟩
        rw [List.mem_append, List.mem_cons, List.mem_cons] at hm
        rcases hm with hm | hm | hm | hm
        · obtain ⟨p1, p2, e⟩ := List.append_of_mem hm
          have h1 : (endsP l (pre ++ x :: y :: r)).getD i 0 = nowF l (p1 ++ [(i : Int)]) 0 := by
            have h : IsOrd l.length (p1 ++ (i : Int) :: (p2 ++ x :: y :: r)) := by rw [e] at ho; simpa using ho
            have h2 := ends_at h
            rw [e]
            simpa using h2
          have h2 : (endsP l (pre ++ y :: x :: r)).getD i 0 = nowF l (p1 ++ [(i : Int)]) 0 := by
            have h : IsOrd l.length (p1 ++ (i : Int) :: (p2 ++ y :: x :: r)) := by rw [e] at ho2; simpa using ho2
            have h2 := ends_at h
            rw [e]
            simpa using h2
          rw [h1, h2]
        · exact absurd (show x.toNat = i by omega) hix
        · exact absurd (show y.toNat = i by omega) hiy
        · obtain ⟨p1, p2, e⟩ := List.append_of_mem hm
          have h1 : (endsP l (pre ++ x :: y :: r)).getD i 0 = nowF l (p1 ++ [(i : Int)]) (nowF l (pre ++ [x, y]) 0) := by
            have h : IsOrd l.length ((pre ++ x :: y :: p1) ++ (i : Int) :: p2) := by rw [e] at ho; simpa using ho
            have h2 := ends_at h
            rw [e, ← nowF_app]
            simpa using h2
          have h2 : (endsP l (pre ++ y :: x :: r)).getD i 0 = nowF l (p1 ++ [(i : Int)]) (nowF l (pre ++ [y, x]) 0) := by
            have h : IsOrd l.length ((pre ++ y :: x :: p1) ++ (i : Int) :: p2) := by rw [e] at ho2; simpa using ho2
            have h2 := ends_at h
            rw [e, ← nowF_app]
            simpa using h2
          rw [h1, h2, hnow]
  have hl1 := endsP_length l (pre ++ x :: y :: r)
  unfold valO valP
  rw [hE, valF_set obj hobj _ l _ 0 true y.toNat (by rw [List.length_set, hl1]) (by omega), valF_set obj hobj _ l _ 0 true x.toNat hl1 (by omega), getD_set, if_neg (fun h => hxy h.1), e1x, e1y]
  show _ - cS obj (jobAt l x) _ + cS obj (jobAt l x) _ - cS obj (jobAt l y) _ + cS obj (jobAt l y) _ ≤ _
  unfold gapI gapJ at hgap
  unfold cS
  rcases hobj with rfl | rfl
  · simp only [show ¬ ((2 : Int) = 1) by decide, if_false, if_true] at hgap ⊢
    omega
  · simp only [show ¬ ((3 : Int) = 1) by decide, show ¬ ((3 : Int) = 2) by decide, if_false, if_true] at hgap ⊢
    simp only [Int.mul_add]
    rw [Int.mul_comm (jobAt l x).f0 (jobAt l y).f1, Int.mul_comm (jobAt l y).f0 (jobAt l x).f1] at hgap
    omega
theorem exch (l : List S42) (obj : Int) (hr : ruledB l obj = true) (pre : List Int) (x y : Int) (r : List Int) (ho : IsOrd l.length (pre ++ x :: y :: r)) (hgap : 0 ≤ gapI l obj x y) : valO l obj (pre ++ y :: x :: r) ≤ valO l obj (pre ++ x :: y :: r) := by
  have hg := ruledB_good hr
  simp only [ruledB, Bool.and_eq_true, Bool.or_eq_true, decide_eq_true_eq] at hr
  have hb := inB_iff.1 hr.2.1
  rcases hr.2.2 with h | h
  · exact exch_max l obj (.inl h) hg (fun h4 => by omega) pre x y r ho hgap
  · have hp := plainB_iff.1 h
    by_cases h1 : obj = 1
    · exact exch_max l obj (.inl h1) hg (fun h4 => by omega) pre x y r ho hgap
    · by_cases h4 : obj = 4
      · exact exch_max l obj (.inr h4) hg (fun _ => hp) pre x y r ho hgap
      · exact exch_sum l obj (by omega) hg hp pre x y r ho hgap
theorem exch_front (l : List S42) (obj : Int) (hr : ruledB l obj = true) (z : Int) (q2 : List Int) : ∀ (q1 p : List Int), (∀ y ∈ q1, 0 ≤ gapI l obj y z) → IsOrd l.length (p ++ (q1 ++ z :: q2)) → valO l obj (p ++ z :: (q1 ++ q2)) ≤ valO l obj (p ++ (q1 ++ z :: q2)) ∧ IsOrd l.length (p ++ z :: (q1 ++ q2))
  | [], p, _, ho => ⟨Int.le_refl _, ho⟩
  | y :: q1, p, hq, ho => by
    have ho1 : IsOrd l.length ((p ++ [y]) ++ (q1 ++ z :: q2)) := by simpa using ho
    obtain ⟨h1, h2⟩ := exch_front l obj hr z q2 q1 (p ++ [y]) (fun w hw => hq w (List.mem_cons_of_mem _ hw)) ho1
    have h3 : IsOrd l.length (p ++ y :: z :: (q1 ++ q2)) := by simpa using h2
    have h4 := exch l obj hr p y z (q1 ++ q2) h3 (hq y List.mem_cons_self)
    refine ⟨Int.le_trans h4 ?_, IsOrd.swap h3⟩
    simpa using h1
theorem exch_best (l : List S42) (obj : Int) (hr : ruledB l obj = true) : ∀ (e q p : List Int), IsOrd l.length (p ++ q) → q.Perm e → e.Pairwise (fun a b => gapI l obj a b ≤ 0) → valO l obj (p ++ e) ≤ valO l obj (p ++ q)
  | [], q, p, ho, hq, _ => by
    rw [List.Perm.eq_nil hq]
    exact Int.le_refl _
  | z :: e, q, p, ho, hq, hs => by
    rw [List.pairwise_cons] at hs
    have hz : z ∈ q := hq.mem_iff.2 List.mem_cons_self
    obtain ⟨q1, q2, rfl⟩ := List.append_of_mem hz
    have hq2 : (q1 ++ q2).Perm e := List.Perm.cons_inv (List.perm_middle.symm.trans hq)
    obtain ⟨h1, h2⟩ := exch_front l obj hr z q2 q1 p (fun y hy => by
      have := hs.1 y (hq2.mem_iff.1 (by simp [hy]))
      rw [gapI_neg] at this
      omega) ho
    have h3 := exch_best l obj hr e (q1 ++ q2) (p ++ [z]) (by simpa using h2) hq2 hs.2
    refine Int.le_trans ?_ h1
    simpa using h3
theorem permsN_mem : ∀ (n : Nat) (s : List Int), s.length = n → s.Nodup → ∀ q : List Int, q.Perm s → q ∈ permsN n s
  | 0, s, hl, _, q, hq => by
    cases List.eq_nil_of_length_eq_zero hl
    rw [hq.eq_nil]
    simp [permsN]
  | n + 1, s, hl, hs, q, hq => by
    cases q with
    | nil =>
      have := hq.length_eq
      simp at this
      omega
    | cons y p =>
      have hy : y ∈ s := hq.mem_iff.1 List.mem_cons_self
      simp only [permsN, List.mem_flatMap, List.mem_map]
      have e := hs.erase_eq_filter y
      have h3 : (s.filter (fun x => x != y)) = s.filter (· ≠ y) := by
        apply List.filter_congr
        intro a _
        by_cases h : a = y <;> simp [h]
      have hp : p.Perm (s.filter (· ≠ y)) := by
        rw [← h3, ← e]
        exact List.Perm.cons_inv (hq.trans (List.perm_cons_erase hy))
      refine ⟨y, hy, p, permsN_mem n _ ?_ (hs.filter _) p hp, rfl⟩
      have := hq.length_eq
      rw [← hp.length_eq]
      simp at this
      omega
def fctN : Nat → Nat
  | 0 => 1
  | n + 1 => (n + 1) * fctN n
theorem permsN_len : ∀ (n : Nat) (s : List Int), s.length = n → s.Nodup → (permsN n s).length = fctN n
  | 0, s, _, _ => rfl
  | n + 1, s, hl, hs => by
    have h : ∀ t : List Int, (∀ y ∈ t, y ∈ s) → (t.flatMap (fun y => (permsN n (s.filter (· ≠ y))).map (y :: ·))).length = t.length * fctN n := by
      intro t
      induction t with
      | nil => intro _; simp
      | cons y t ih =>
        intro ht
        have hy := ht y List.mem_cons_self
        have e := hs.erase_eq_filter y
        have h3 : (s.filter (fun x => x != y)) = s.filter (· ≠ y) := by
          apply List.filter_congr
          intro a _
          by_cases h : a = y <;> simp [h]
        have hle : (s.filter (· ≠ y)).length = n := by
          rw [← h3, ← e, List.length_erase_of_mem hy]
          omega
        rw [List.flatMap_cons, List.length_append, List.length_map, permsN_len n _ hle (hs.filter _), ih (fun w hw => ht w (List.mem_cons_of_mem _ hw)), List.length_cons, Nat.add_mul]
        omega
    rw [permsN, h s (fun _ hy => hy), hl, fctN]
theorem fctN_le {n : Nat} (h : n ≤ 8) : fctN n ≤ 40320 := by
  have : n = 0 ∨ n = 1 ∨ n = 2 ∨ n = 3 ∨ n = 4 ∨ n = 5 ∨ n = 6 ∨ n = 7 ∨ n = 8 := by omega
  rcases this with rfl | rfl | rfl | rfl | rfl | rfl | rfl | rfl | rfl <;> decide
theorem bestS_fold (V : List Int → Int) : ∀ (r : List (List Int)) (s : List Int × Int × Int), 1 ≤ s.2.2 → s.2.2 + r.length ≤ 1000000 → (∀ q ∈ r, (r.foldl (bestS V) s).2.1 ≤ V q) ∧ (r.foldl (bestS V) s).2.1 ≤ s.2.1 ∧ ((r.foldl (bestS V) s).2.1 = s.2.1 ∨ ∃ q ∈ r, (r.foldl (bestS V) s).2.1 = V q) ∧ 1 ≤ (r.foldl (bestS V) s).2.2
  | [], s, h1, _ => ⟨fun q hq => by simp at hq, Int.le_refl _, .inl rfl, h1⟩
  | o :: r, s, h1, h2 => by
    have h2' : s.2.2 + (r.length + 1) ≤ 1000000 := by
      simp only [List.length_cons] at h2
      omega
    rw [List.foldl_cons]
    by_cases c1 : s.2.2 = 0 ∨ V o < s.2.1
    · have e : bestS V s o = (o, V o, 1) := by rw [bestS, if_pos c1]
      have hlt : V o < s.2.1 := by omega
      rw [e]
      obtain ⟨g1, g2, g3, g4⟩ := bestS_fold V r (o, V o, 1) (by simp) (by simp only; omega)
      refine ⟨fun q hq => ?_, by simp only at g2; omega, ?_, g4⟩
      · rcases List.mem_cons.1 hq with rfl | hq
        · exact g2
        · exact g1 q hq
      · rcases g3 with g3 | ⟨q, hq, g3⟩
        · exact .inr ⟨o, List.mem_cons_self, g3⟩
        · exact .inr ⟨q, List.mem_cons_of_mem _ hq, g3⟩
    · by_cases c2 : V o = s.2.1
      · have e : bestS V s o = (s.1, s.2.1, wrap64 (s.2.2 + 1)) := by rw [bestS, if_neg c1, if_pos c2]
        have hw : wrap64 (s.2.2 + 1) = s.2.2 + 1 := wrap_id (by omega) (by omega)
        rw [e, hw]
        obtain ⟨g1, g2, g3, g4⟩ := bestS_fold V r (s.1, s.2.1, s.2.2 + 1) (by simp only; omega) (by simp only; omega)
        refine ⟨fun q hq => ?_, g2, ?_, g4⟩
        · rcases List.mem_cons.1 hq with rfl | hq
          · rw [c2]
            exact g2
          · exact g1 q hq
        · rcases g3 with g3 | ⟨q, hq, g3⟩
          · exact .inl g3
          · exact .inr ⟨q, List.mem_cons_of_mem _ hq, g3⟩
      · have e : bestS V s o = s := by rw [bestS, if_neg c1, if_neg c2]
        rw [e]
        obtain ⟨g1, g2, g3, g4⟩ := bestS_fold V r s h1 (by omega)
        refine ⟨fun q hq => ?_, g2, ?_, g4⟩
        · rcases List.mem_cons.1 hq with rfl | hq
          · omega
          · exact g1 q hq
        · rcases g3 with g3 | ⟨q, hq, g3⟩
          · exact .inl g3
          · exact .inr ⟨q, List.mem_cons_of_mem _ hq, g3⟩
/-- The best of some orders, of which there is one at least, is the least value. -/
theorem bestS_least (V : List Int → Int) (r : List (List Int)) (hr : r ≠ []) (hl : r.length ≤ 100000) (s : List Int × Int × Int) (hs : s.2.2 = 0) : (∀ q ∈ r, (r.foldl (bestS V) s).2.1 ≤ V q) ∧ ∃ q ∈ r, (r.foldl (bestS V) s).2.1 = V q := by
  cases r with
  | nil => exact absurd rfl hr
  | cons o r =>
    simp only [List.length_cons] at hl
    have e : bestS V s o = (o, V o, 1) := by rw [bestS, if_pos (.inl hs)]
    rw [List.foldl_cons, e]
    obtain ⟨g1, g2, g3, g4⟩ := bestS_fold V r (o, V o, 1) (by simp) (by simp only; omega)
    refine ⟨fun q hq => ?_, ?_⟩
    · rcases List.mem_cons.1 hq with rfl | hq
      · exact g2
      · exact g1 q hq
    · rcases g3 with g3 | ⟨q, hq, g3⟩
      · exact ⟨o, List.mem_cons_self, g3⟩
      · exact ⟨q, List.mem_cons_of_mem _ hq, g3⟩
theorem bestP_is (l : List S42) (obj : Int) (hr : ruledB l obj = true) (e : List Int) (he : IsOrd l.length e) (hs : e.Pairwise (fun a b => gapI l obj a b ≤ 0)) : valP obj l (endsP l e) = (bestP l obj).2.1 := by
  have hg := ruledB_good hr
  have h8 := hg.1
  have hn := numsTo_nodup l.length
  have hnl := numsTo_length l.length
  have hm := permsN_mem l.length (numsTo l.length) hnl hn e he.perm
  have hlen := permsN_len l.length (numsTo l.length) hnl hn
  have hf := fctN_le h8
  obtain ⟨g1, q, hq, g2⟩ := bestS_least (fun o => valP obj l (endsP l o)) (permsN l.length (numsTo l.length)) (fun h => by rw [h] at hm; simp at hm) (by omega) ([], 0, 0) rfl
  have hq2 := permsN_perm l.length (numsTo l.length) hnl hn q hq
  have h1 := exch_best l obj hr e q [] (IsOrd.of_perm hq2) (hq2.trans he.perm.symm) hs
  have h2 := g1 e hm
  unfold bestP
  refine Int.le_antisymm ?_ h2
  rw [g2]
  exact h1

/-- What a run of exchanges is: each place holds neighbors that are wrong, and behind the last one there are none. -/
def Chain (w : Int → Int → Bool) : List Int → List Int → List Int → Prop
  | o, [], O => o = O ∧ firstW w 0 o = -1
  | o, p :: R, O => ∃ (pre : List Int) (x y : Int) (r : List Int), o = pre ++ x :: y :: r ∧ p = (pre.length : Int) ∧ w x y = true ∧ Chain w (pre ++ y :: x :: r) R O
theorem wrong_asy (l : List S42) (obj : Int) {x y : Int} (h2 : wrongB l obj x y = true) : wrongB l obj y x = false := by
  have := of_decide_eq_true h2
  exact decide_eq_false (by rw [gapI_neg]; omega)
theorem sort_chain (l : List S42) (obj : Int) (hg : Good l) : ∀ (n : Nat) (o P : List Int), invN (wrongB l obj) o ≤ n → IsOrd l.length o → P.length + n < 1000000 →
    ∃ R O : List Int, L (fun k => spec_SortingExchanges.l0 k l obj P o (firstW (wrongB l obj) 0 o)) = some (P ++ R, O, true) ∧ L (fun k => impl_SortingExchanges.l0 k l obj o P 0) = some (P ++ R, O, true) ∧ R.length ≤ n ∧ O.length = l.length ∧ Chain (wrongB l obj) o R O := by
  intro n
  induction n with
  | zero =>
    intro o P hn ho hP
    have h8 := hg.1
    have hl := ho.1
    have hs := sort_scan l obj hg P (by omega) o [] (by simp; omega) ho.2.1
    simp only [List.nil_append, List.length_nil, Int.natCast_zero] at hs
    rcases hs with ⟨h1, h2⟩ | ⟨pre', x, y, r', h1, h2, h3, h4⟩
    · refine ⟨[], o, ?_, by rw [List.append_nil]; exact h2, by simp, hl, rfl, h1⟩
      rw [h1, L_shift]
      simp only [spec_SortingExchanges.l0, if_neg (show ¬ ((-1 : Int) ≥ 0) by omega), L_const, List.append_nil]
    · rw [h1, invN_swap _ x y h2 (wrong_asy l obj h2)] at hn
      omega
  | succ n ih =>
    intro o P hn ho hP
    have h8 := hg.1
    have hl := ho.1
    have hs := sort_scan l obj hg P (by omega) o [] (by simp; omega) ho.2.1
    simp only [List.nil_append, List.length_nil, Int.natCast_zero] at hs
    rcases hs with ⟨h1, h2⟩ | ⟨pre', x, y, r', h1, h2, h3, h4⟩
    · refine ⟨[], o, ?_, by rw [List.append_nil]; exact h2, by simp, hl, rfl, h1⟩
      rw [h1, L_shift]
      simp only [spec_SortingExchanges.l0, if_neg (show ¬ ((-1 : Int) ≥ 0) by omega), L_const, List.append_nil]
    · have hn2 := hn
      rw [h1, invN_swap _ x y h2 (wrong_asy l obj h2)] at hn2
      have ho2 : IsOrd l.length (pre' ++ y :: x :: r') := IsOrd.swap (h1 ▸ ho)
      obtain ⟨R, O, g1, g2, g3, g4, g5⟩ := ih (pre' ++ y :: x :: r') (P ++ [(pre'.length : Int)]) (by omega) ho2 (by simp; omega)
      refine ⟨(pre'.length : Int) :: R, O, ?_, ?_, by simp; omega, g4, pre', x, y, r', h1, rfl, h2, g5⟩
      · have hw := l3Wrong_L l obj hg (pre' ++ y :: x :: r') (by have := ho2.1; omega) ho2.2.1
        rw [h3, L_shift]
        have hlen : (pre' ++ x :: y :: r').length ≤ 1048576 := by rw [← h1]; omega
        rw [h1]
        simp only [spec_SortingExchanges.l0, if_pos (show ((pre'.length : Int) ≥ 0) by omega), if_pos (show P.length < 17592186044416 by omega), l2Swap_e pre' x y r' hlen, Option.bind_some, L_bind, hw, g1, List.append_assoc, List.singleton_append]
      · rw [h4, g2, List.append_assoc, List.singleton_append]
theorem chain_ord (w : Int → Int → Bool) {n : Nat} : ∀ (R o O : List Int), IsOrd n o → Chain w o R O → IsOrd n O ∧ firstW w 0 O = -1
  | [], o, O, ho, h => by
    obtain ⟨rfl, h⟩ := h
    exact ⟨ho, h⟩
  | p :: R, o, O, ho, h => by
    obtain ⟨pre, x, y, r, rfl, _, _, h⟩ := h
    exact chain_ord w R _ O (IsOrd.swap ho) h
theorem chain_inv (w : Int → Int → Bool) (hw : ∀ x y, w x y = true → w y x = false) : ∀ (R o O : List Int), Chain w o R O → invN w o = R.length + invN w O
  | [], o, O, h => by
    obtain ⟨rfl, h⟩ := h
    simp
  | p :: R, o, O, h => by
    obtain ⟨pre, x, y, r, rfl, _, h2, h⟩ := h
    rw [invN_swap w x y h2 (hw x y h2), chain_inv w hw R _ O h, List.length_cons]
    omega
theorem invL_invN (w : Int → Int → Bool) : ∀ o : List Int, (invL w o).length = invN w o
  | [] => rfl
  | x :: r => by
    rw [invL, invN, List.length_append, List.length_map, invL_invN w r, List.countP_eq_length_filter]
theorem gap_trans (l : List S42) (obj : Int) (hg : Good l) (x y z : Int) (hx : 0 ≤ x ∧ x < (l.length : Int)) (hy : 0 ≤ y ∧ y < (l.length : Int)) (hz : 0 ≤ z ∧ z < (l.length : Int)) (h1 : gapI l obj x y ≤ 0) (h2 : gapI l obj y z ≤ 0) : gapI l obj x z ≤ 0 := by
  have ty := (hg.2 _ (jobAt_mem hy.1 hy.2)).t0
  have tx := (hg.2 _ (jobAt_mem hx.1 hx.2)).t0
  have tz := (hg.2 _ (jobAt_mem hz.1 hz.2)).t0
  unfold gapI gapJ at *
  split at h1
  · rename_i h
    rw [if_pos h] at h2 ⊢
    omega
  · rename_i h
    rw [if_neg h] at h2 ⊢
    split at h1
    · rename_i h
      rw [if_pos h] at h2 ⊢
      omega
    · rename_i h
      rw [if_neg h] at h2 ⊢
      split at h1
      · rename_i h
        rw [if_pos h] at h2 ⊢
        generalize (jobAt l x).f0 = a, (jobAt l y).f0 = b, (jobAt l z).f0 = c, (jobAt l x).f1 = u, (jobAt l y).f1 = v, (jobAt l z).f1 = w at *
        have e1 : a * v ≤ b * u := by omega
        have e2 : b * w ≤ c * v := by omega
        have m1 : c * (a * v) ≤ c * (b * u) := Int.mul_le_mul_of_nonneg_left e1 (by omega)
        have m2 : a * (b * w) ≤ a * (c * v) := Int.mul_le_mul_of_nonneg_left e2 (by omega)
        have m3 : b * (a * w) ≤ b * (c * u) := by
          have p1 : b * (a * w) = a * (b * w) := by rw [← Int.mul_assoc, Int.mul_comm b a, Int.mul_assoc]
          have p2 : c * (a * v) = a * (c * v) := by rw [← Int.mul_assoc, Int.mul_comm c a, Int.mul_assoc]
          have p3 : b * (c * u) = c * (b * u) := by rw [← Int.mul_assoc, Int.mul_comm b c, Int.mul_assoc]
          omega
        have m4 := Int.le_of_mul_le_mul_left m3 (by omega)
        omega
      · rename_i h
        rw [if_neg h] at h2 ⊢
        omega
theorem firstW_pair (l : List S42) (obj : Int) (hg : Good l) : ∀ (o : List Int) (i : Nat), (∀ x ∈ o, 0 ≤ x ∧ x < (l.length : Int)) → firstW (wrongB l obj) i o = -1 → o.Pairwise (fun a b => gapI l obj a b ≤ 0)
  | [], i, _, _ => List.Pairwise.nil
  | [x], i, _, _ => by simp
  | x :: y :: r, i, hb, h => by
    rw [firstW] at h
    split at h
    · omega
    · rename_i hw
      have ih := firstW_pair l obj hg (y :: r) (i + 1) (fun z hz => hb z (List.mem_cons_of_mem _ hz)) h
      have h1 : gapI l obj x y ≤ 0 := by
        have : wrongB l obj x y = false := by simpa using hw
        have := of_decide_eq_false this
        omega
      refine List.Pairwise.cons (fun z hz => ?_) ih
      rcases List.mem_cons.1 hz with rfl | hz2
      · exact h1
      · have h2 := (List.pairwise_cons.1 ih).1 z hz2
        exact gap_trans l obj hg x y z (hb x (by simp)) (hb y (by simp)) (hb z (by simp [hz2])) h1 h2
theorem pair_inv (l : List S42) (obj : Int) : ∀ o : List Int, o.Pairwise (fun a b => gapI l obj a b ≤ 0) → invN (wrongB l obj) o = 0
  | [], _ => rfl
  | x :: r, h => by
    rw [List.pairwise_cons] at h
    rw [invN, pair_inv l obj r h.2, Nat.add_zero, List.countP_eq_zero]
    intro y hy
    have := h.1 y hy
    simp only [wrongB, decide_eq_true_eq]
    omega
theorem EG_L (l : List S42) (obj : Int) (hg : Good l) (hobj : objB obj = true) (pre : List Int) (x y : Int) (r : List Int) (ho : IsOrd l.length (pre ++ x :: y :: r)) : L (fun k => impl_ExchangeGain.f k l (pre ++ x :: y :: r) (pre.length : Int) obj) = some (valO l obj (pre ++ x :: y :: r) - valO l obj (pre ++ y :: x :: r), true) := by
  have h8 := hg.1
  have hl := ho.1
  have hlen : (pre ++ x :: y :: r).length = pre.length + (r.length + 2) := by simp
  have hs : schedB l (pre ++ x :: y :: r) = true := schedB_iff.2 ⟨hg, ho⟩
  have hin : inB (pre.length : Int) 0 (((pre ++ x :: y :: r).length : Int) - 2) = true := inB_iff.2 (by omega)
  simp only [impl_ExchangeGain.f, L_bind, L_ite, L_const, isValued_L l (pre ++ x :: y :: r) obj (by omega) (by omega), Option.bind_some, within_e, hs, hobj, wrap_id (show -9223372036854775808 ≤ ((pre ++ x :: y :: r).length : Int) - 2 by omega) (show ((pre ++ x :: y :: r).length : Int) - 2 ≤ 9223372036854775807 by omega), hin, Bool.and_self, if_true, gain_L l obj hg pre x y r ho]
theorem ruledO_l (l : List S42) (obj : Int) (hg : Good l) : ∀ (r pre : List Int) (x : Int), (pre ++ x :: r).length ≤ 8 → (∀ z ∈ pre ++ x :: r, 0 ≤ z ∧ z < (l.length : Int)) → (x :: r).Pairwise (fun a b => gapI l obj a b ≤ 0) → L (fun k => impl_IsRuledOrder.l0 k l (pre ++ x :: r) obj ((pre.length : Int) + 1)) = some (true, true)
  | [], pre, x, h8, hb, hp => by
    rw [L_shift]
    have hl : (pre ++ [x]).length = pre.length + 1 := by simp
    simp only [impl_IsRuledOrder.l0, if_neg (show ¬ ((pre.length : Int) + 1 < ((pre ++ [x]).length : Int)) by omega), L_const]
  | y :: r, pre, x, h8, hb, hp => by
    rw [L_shift]
    have hl : (pre ++ x :: y :: r).length = pre.length + (r.length + 2) := by simp
    have hx := hb x (by simp)
    have hy := hb y (by simp)
    have hjx := hg.2 _ (jobAt_mem hx.1 hx.2)
    have hjy := hg.2 _ (jobAt_mem hy.1 hy.2)
    have e1 : rd_T42 l x = jobAt l x := rfl
    have e2 : rd_T42 l y = jobAt l y := rfl
    have ih := ruledO_l l obj hg r (pre ++ [x]) y (by simpa using h8) (by simpa using hb) (List.pairwise_cons.1 hp).2
    have e : ((pre ++ [x]).length : Int) = (pre.length : Int) + 1 := by simp
    rw [e, ← app_cons] at ih
    have hgap : gapI l obj x y ≤ 0 := (List.pairwise_cons.1 hp).1 y List.mem_cons_self
    have e3 : gapJ obj (jobAt l y) (jobAt l x) = - gapI l obj x y := gapI_neg l obj x y
    simp only [impl_IsRuledOrder.l0, wrap_id (show -9223372036854775808 ≤ (pre.length : Int) + 1 - 1 by omega) (show (pre.length : Int) + 1 - 1 ≤ 9223372036854775807 by omega), if_pos (show ((pre.length : Int) + 1 < ((pre ++ x :: y :: r).length : Int)) by omega), show (pre.length : Int) + 1 - 1 = (pre.length : Int) by omega, wrap_id (show -9223372036854775808 ≤ (pre.length : Int) by omega) (show (pre.length : Int) ≤ 9223372036854775807 by omega), if_pos (show (0 : Int) ≤ (pre.length : Int) + 1 by omega), if_pos (show ((pre.length : Int) < ((pre ++ x :: y :: r).length : Int)) by omega), le_nat, if_true, rd_mid, rd_mid2, if_pos hx.1, if_pos hx.2, if_pos hy.1, if_pos hy.2, e1, e2, difference_e _ _ obj hjy hjx, e3, Option.bind_some, if_neg (show ¬ (- gapI l obj x y < 0) by omega), wrap_id (show -9223372036854775808 ≤ (pre.length : Int) + 1 + 1 by omega) (show (pre.length : Int) + 1 + 1 ≤ 9223372036854775807 by omega), ih]
theorem ruledO_L (l : List S42) (obj : Int) (hr : ruledB l obj = true) (O : List Int) (hO : IsOrd l.length O) (hp : O.Pairwise (fun a b => gapI l obj a b ≤ 0)) : L (fun k => impl_IsRuledOrder.f k l O obj) = some (true, true) := by
  have hg := ruledB_good hr
  have h8 := hg.1
  have hl := hO.1
  have hord : orderB l.length O = true := orderB_iff.2 hO
  simp only [impl_IsRuledOrder.f, L_bind, L_ite, L_const, isRuledAndOrdered_L l O obj (by omega) (by omega), hr, hord, Bool.and_self, Option.bind_some, if_true]
  cases O with
  | nil =>
    rw [L_shift]
    simp only [impl_IsRuledOrder.l0, List.length_nil, Int.natCast_zero, if_neg (show ¬ ((1 : Int) < 0) by decide), L_const]
  | cons x r =>
    have := ruledO_l l obj hg r [] x (by simp at hl ⊢; omega) hO.2.1 hp
    simpa using this
theorem bestO_L (l : List S42) (obj : Int) (hr : ruledB l obj = true) (hobj : objB obj = true) (O : List Int) (hO : IsOrd l.length O) (hp : O.Pairwise (fun a b => gapI l obj a b ≤ 0)) : L (fun k => impl_IsBestOrder.f k l O obj) = some (true, true) := by
  have hg := ruledB_good hr
  have h8 := hg.1
  have hl := hO.1
  have hs : schedB l O = true := schedB_iff.2 ⟨hg, hO⟩
  have hb := bestP_is l obj hr O hO hp
  simp only [impl_IsBestOrder.f, L_bind, L_ite, L_const, isValued_L l O obj (by omega) (by omega), hs, hobj, Bool.and_self, Option.bind_some, if_true, valueOf_L l O hg hO obj, best_L l hg obj, hb, beq_self_eq_true]
theorem so_l0 (l : List S42) (obj : Int) (hr : ruledB l obj = true) (hobj : objB obj = true) (O : List Int) (hO : IsOrd l.length O) (hf : firstW (wrongB l obj) 0 O = -1) (Q : List S63) : ∀ (R pre now : List Int), (pre ++ R).length ≤ 1000 → (pre ++ R).length = Q.length → IsOrd l.length now → Chain (wrongB l obj) now R O → L (fun k => laws_FnSorting.l0 k l obj (pre ++ R) O Q now (pre.length : Int)) = some true
  | [], pre, now, hlen, hq, hn, hc => by
    have hg := ruledB_good hr
    have h8 := hg.1
    have hl := hO.1
    obtain ⟨rfl, _⟩ := hc
    have hp := firstW_pair l obj hg now 0 hO.2.1 hf
    rw [L_shift]
    have hq2 : (((pre ++ ([] : List Int)).length : Int) == (Q.length : Int)) = true := by rw [hq]; simp
    simp only [laws_FnSorting.l0, not_lt_end, if_false, L_bind, ruledO_L l obj hr now hO hp, bestO_L l obj hr hobj now hO hp, Option.bind_some, vInts_L now (by omega), if_true, L_const, hq2]
  | p :: R, pre, now, hlen, hq, hn, hc => by
    have hg := ruledB_good hr
    have h8 := hg.1
    obtain ⟨q, x, y, r, rfl, rfl, hw, hc⟩ := hc
    have hl := hn.1
    have hn2 := IsOrd.swap hn
    have hlq : (q ++ x :: y :: r).length = q.length + (r.length + 2) := by simp
    have hw2 := of_decide_eq_true hw
    have hv := exch l obj hr q x y r hn (by omega)
    have ih := so_l0 l obj hr hobj O hO hf Q R (pre ++ [(q.length : Int)]) (q ++ y :: x :: r) (by simpa using hlen) (by simpa using hq) hn2 hc
    have hpl : pre.length < 4611686018427387904 := by simp at hlen; omega
    rw [L_shift]
    simp only [laws_FnSorting.l0, lt_mid, le_nat, if_true, rd_mid, L_bind, EG_L l obj hg hobj q x y r hn, Option.bind_some, L_ite, L_const, if_neg (show ¬ (valO l obj (q ++ x :: y :: r) - valO l obj (q ++ y :: x :: r) < 0) by omega), wrap_id (show -9223372036854775808 ≤ (q.length : Int) + 1 by omega) (show (q.length : Int) + 1 ≤ 9223372036854775807 by omega), if_pos (show ((q.length : Int) < ((q ++ x :: y :: r).length : Int)) by omega), if_pos (show (0 : Int) ≤ (q.length : Int) + 1 by omega), if_pos (show ((q.length : Int) + 1 < ((q ++ x :: y :: r).length : Int)) by omega), rd_mid2, set_swap, wrap_mid pre (q.length : Int) hpl]
    rw [app_cons pre, ih]
theorem so_pos (l : List S42) (hg : Good l) (obj x : Int) (hx : 0 ≤ x ∧ x < (l.length : Int)) : ∀ (out : List Int), (∀ y ∈ out, 0 ≤ y ∧ y < (l.length : Int)) → ∃ k, spec_l3Order.posR l obj x out = some k ∧ k ≤ out.length
  | [], _ => ⟨0, rfl, Nat.le_refl _⟩
  | y :: r, ho => by
    obtain ⟨k, h1, h2⟩ := so_pos l hg obj x hx r (fun z hz => ho z (List.mem_cons_of_mem _ hz))
    simp only [spec_l3Order.posR, l3Gap_e l obj y x hg (ho y List.mem_cons_self) hx, Option.bind_some]
    by_cases hc : gapI l obj y x ≤ 0
    · rw [if_pos hc, h1]
      exact ⟨k + 1, rfl, by simp; omega⟩
    · rw [if_neg hc]
      exact ⟨0, rfl, Nat.zero_le _⟩
theorem so_go (l : List S42) (hg : Good l) (obj : Int) : ∀ (d i : Nat) (out : List Int), i + d = l.length → out.length = i → (∀ y ∈ out, 0 ≤ y ∧ y < (l.length : Int)) → ∃ s, spec_l3Order.go l obj d i out = some s ∧ s.length = l.length
  | 0, i, out, hd, ho, _ => ⟨out, rfl, by omega⟩
  | d + 1, i, out, hd, ho, hb => by
    obtain ⟨k, h1, h2⟩ := so_pos l hg obj (i : Int) (by omega) out hb
    obtain ⟨s, h3, h4⟩ := so_go l hg obj d (i + 1) (out.take k ++ (i : Int) :: out.drop k) (by omega) (by simp; omega) (fun y hy => by
      rw [List.mem_append, List.mem_cons] at hy
      rcases hy with hy | rfl | hy
      · exact hb y (List.mem_of_mem_take hy)
      · omega
      · exact hb y (List.mem_of_mem_drop hy))
    exact ⟨s, by simp only [spec_l3Order.go, h1, Option.bind_some, h3], h4⟩
theorem so_order (l : List S42) (obj : Int) (hr : ruledB l obj = true) : ∃ s, spec_l3Order.f l obj = some s ∧ s.length = l.length := by
  have hg := ruledB_good hr
  have h8 := hg.1
  obtain ⟨s, h1, h2⟩ := so_go l hg obj l.length 0 [] (by omega) rfl (fun y hy => by simp at hy)
  exact ⟨s, by rw [spec_l3Order.f, if_pos (by omega), h1], h2⟩
theorem cur_ruled3 (c : List Int) (hc : Byt c) (a s : Int) (h0 : 0 ≤ a) (h1 : a ≤ 90000000) : ∃ J t a' s', L (fun k => spec_l1Cur_ruled3.f k c a s) = some (J, t, a', s') ∧ J.length ≤ 9 ∧ a ≤ a' ∧ a' ≤ a + 300 := by
  have hj : ∀ t a s, 0 ≤ a → a ≤ 100000000 → ∃ J' a' s', L (fun k => spec_l1Cur_ruled3.j0 k t c a s) = some (J', t, a', s') ∧ J'.length ≤ 9 ∧ a ≤ a' ∧ a' ≤ a + 240 := by
    intro t a s h0 h1
    obtain ⟨J1, a1, s1, e1, l1, p1, q1⟩ := cur_jobs c hc a s h0 (by omega)
    obtain ⟨J2, a2, s2, e2, l2, p2, q2⟩ := cur_plain3 c hc a s h0 (by omega)
    by_cases h : t = 1
    · refine ⟨J1, a1, s1, ?_, l1, p1, by omega⟩
      rw [L_shift]
      simp only [spec_l1Cur_ruled3.j0, if_pos h, L_bind, e1, Option.bind_some, L_const]
    · refine ⟨J2, a2, s2, ?_, l2, p2, by omega⟩
      rw [L_shift]
      simp only [spec_l1Cur_ruled3.j0, if_neg h, L_bind, e2, Option.bind_some, L_const]
  obtain ⟨t1, a1, s1, e1, _, _, p1, q1⟩ := cur_pick c hc a s 4 h0 (by omega)
  obtain ⟨b, a2, s2, e2, p2, q2⟩ := cur_one c hc a1 s1 24 (by omega) (by omega)
  cases b with
  | true =>
    obtain ⟨t, a3, s3, e3, _, p3, q3⟩ := cur_among c hc [0, 5, 8, (-1)] (by decide) a2 s2 (by omega) (by omega)
    obtain ⟨J, a4, s4, e4, l4, p4, q4⟩ := hj t a3 s3 (by omega) (by omega)
    refine ⟨J, t, a4, s4, ?_, l4, by omega, by omega⟩
    simp only [spec_l1Cur_ruled3.f, L_bind, e1, e2, Option.bind_some, if_true, e3, e4, L_const]
  | false =>
    obtain ⟨J, a4, s4, e4, l4, p4, q4⟩ := hj (wrap64 (1 + t1)) a2 s2 (by omega) (by omega)
    refine ⟨J, wrap64 (1 + t1), a4, s4, ?_, l4, by omega, by omega⟩
    simp only [spec_l1Cur_ruled3.f, L_bind, e1, e2, Option.bind_some, Bool.false_eq_true, if_false, e4, L_const]
theorem draw_sorting (c : List Int) (hc : Byt c) : ∃ J O t, L (fun k => spec_DrawSortingExchanges.f k c) = some (J, O, t) ∧ J.length ≤ 9 ∧ O.length ≤ 200 := by
  obtain ⟨J, t, a1, s1, e1, l1, p1, q1⟩ := cur_ruled3 c hc 0 0 (by omega) (by omega)
  obtain ⟨O, a2, s2, e2, l2, p2, q2⟩ := cur_order c hc a1 s1 (J.length : Int) (by omega) (by omega) (by omega) (by omega)
  have e3 := l3Ruled_L J t (by omega)
  obtain ⟨b, a3, s3, e4, p3, q3⟩ := cur_one c hc a2 s2 2 (by omega) (by omega)
  have h1 : ∀ (X : List Int) (b : Bool) (a s : Int), 0 ≤ a → a ≤ 100000 → X.length ≤ 9 → (b = true → 1 < X.length) → ∃ O, L (fun k => spec_DrawIsRuledOrder.j1 k J t X b c a s) = some (J, O, t) ∧ O.length ≤ 200 := by
    intro X b a s h0 h1 hX hb
    rw [L_shift]
    cases b with
    | false => exact ⟨X, by simp only [spec_DrawIsRuledOrder.j1, Bool.false_eq_true, if_false, L_const], by omega⟩
    | true =>
      have hb2 := hb rfl
      obtain ⟨i, a4, s4, e5, i0, i1, p4, q4⟩ := cur_pick c hc a s ((X.length : Int) - 1) h0 (by omega)
      obtain ⟨pre, x, y, r, rfl, hp⟩ := split_at X i.toNat (by omega)
      have ei : i = (pre.length : Int) := by omega
      refine ⟨pre ++ y :: x :: r, ?_, by simp at hX ⊢; omega⟩
      simp only [spec_DrawIsRuledOrder.j1, if_true, wrap_id (show -9223372036854775808 ≤ ((pre ++ x :: y :: r).length : Int) - 1 by omega) (show ((pre ++ x :: y :: r).length : Int) - 1 ≤ 9223372036854775807 by omega), L_bind, L_const, e5, Option.bind_some, ei, l2Swap_e pre x y r (by omega)]
  have h0 : ∀ (b : Bool) (a s : Int), 0 ≤ a → a ≤ 10000 → (b = true → ruledB J t = true) → ∃ O', L (fun k => spec_DrawIsRuledOrder.j0 k J t O b c a s) = some (J, O', t) ∧ O'.length ≤ 200 := by
    intro b a s h0 hb1 hb
    rw [L_shift]
    cases b with
    | false => exact ⟨O, by simp only [spec_DrawIsRuledOrder.j0, Bool.false_eq_true, if_false, L_const], l2⟩
    | true =>
      obtain ⟨X, e5, hX⟩ := so_order J t (hb rfl)
      obtain ⟨b2, a4, s4, e6, p4, q4⟩ := cur_one c hc a s 2 h0 (by omega)
      by_cases hx1 : (X.length : Int) > 1
      · obtain ⟨O', g1, g2⟩ := h1 X b2 a4 s4 (by omega) (by omega) (by omega) (fun _ => by omega)
        exact ⟨O', by simp only [spec_DrawIsRuledOrder.j0, if_true, e5, Option.bind_some, if_pos hx1, L_bind, e6, L_const, g1], g2⟩
      · obtain ⟨O', g1, g2⟩ := h1 X false a s (by omega) (by omega) (by omega) (fun h => by cases h)
        exact ⟨O', by simp only [spec_DrawIsRuledOrder.j0, if_true, e5, Option.bind_some, if_neg hx1, g1], g2⟩
  cases hr : ruledB J t with
  | true =>
    obtain ⟨O', g1, g2⟩ := h0 b a3 s3 (by omega) (by omega) (fun _ => hr)
    have hd : L (fun k => spec_DrawIsRuledOrder.f k c) = some (J, O', t) := by
      simp only [spec_DrawIsRuledOrder.f, L_bind, L_ite, e1, Option.bind_some, e2, e3, hr, if_true, e4, g1, L_const]
    exact ⟨J, O', t, by simp only [spec_DrawSortingExchanges.f, L_bind, hd, Option.bind_some, L_const], l1, g2⟩
  | false =>
    obtain ⟨O', g1, g2⟩ := h0 false a2 s2 (by omega) (by omega) (fun h => by cases h)
    have hd : L (fun k => spec_DrawIsRuledOrder.f k c) = some (J, O', t) := by
      simp only [spec_DrawIsRuledOrder.f, L_bind, L_ite, e1, Option.bind_some, e2, e3, hr, Bool.false_eq_true, if_false, g1, L_const]
    exact ⟨J, O', t, by simp only [spec_DrawSortingExchanges.f, L_bind, hd, Option.bind_some, L_const], l1, g2⟩
theorem so_j0 (l : List S42) (o : List Int) (obj : Int) (h : l.length ≤ 9) (ho : o.length ≤ 200) : ∃ (R O : List Int) (b : Bool), L (fun k => spec_SortingExchanges.f k l o obj) = some (R, O, b) ∧ L (fun k => impl_SortingExchanges.f k l o obj) = some (R, O, b) ∧ R.length ≤ 1000 ∧ O.length ≤ 1000 ∧ L (fun k => laws_FnSorting.j0 k l o obj R O b false) = some true := by
  have h2 : l.length ≤ 1048576 := by omega
  have ho2 : o.length ≤ 1048576 := by omega
  simp only [spec_SortingExchanges.f, impl_SortingExchanges.f, L_bind, L_ite, L_const, l3Both_L l o obj h2 ho2, isRuledAndOrdered_L l o obj h2 ho2, Option.bind_some, copyInts_e o ho2, l1Own_e o ho2]
  have hno : L (fun k => laws_FnSorting.j0 k l o obj [] [] false false) = some true := by
    rw [L_shift]
    simp only [laws_FnSorting.j0, Bool.false_eq_true, if_false, L_const]
  cases hr : ruledB l obj with
  | false => exact ⟨[], [], false, by simp, by simp, by simp, by simp, hno⟩
  | true =>
    cases hord : orderB l.length o with
    | false => exact ⟨[], [], false, by simp, by simp, by simp, by simp, hno⟩
    | true =>
      have hg := ruledB_good hr
      have hi := orderB_iff.1 hord
      have h8 := hg.1
      have hl := hi.1
      have hobj : objB obj = true := by
        simp only [ruledB, Bool.and_eq_true] at hr
        have := inB_iff.1 hr.2.1
        exact inB_iff.2 (by omega)
      have hn : invN (wrongB l obj) o ≤ 64 := by
        have h1 := invL_len (wrongB l obj) o
        rw [invL_invN] at h1
        exact Nat.le_trans h1 (Nat.mul_le_mul (by omega) (by omega) : o.length * o.length ≤ 8 * 8)
      obtain ⟨R, O, g1, g2, g3, g4, g5⟩ := sort_chain l obj hg 64 o [] hn hi (by simp)
      rw [List.nil_append] at g1 g2
      have hw := l3Wrong_L l obj hg o (by omega) hi.2.1
      obtain ⟨c1, c2⟩ := chain_ord _ R o O hi g5
      have c3 := pair_inv l obj O (firstW_pair l obj hg O 0 c1.2.1 c2)
      have c4 := chain_inv (wrongB l obj) (fun x y hxy => wrong_asy l obj hxy) R o O g5
      have hQ : ([] ++ R : List Int).length = (invL (wrongB l obj) o).length := by
        rw [invL_invN, c4, c3]
        simp
      have hlaw := so_l0 l obj hr hobj O c1 c2 (invL (wrongB l obj) o) R [] o (by simp; omega) hQ hi g5
      rw [List.nil_append] at hlaw
      refine ⟨R, O, true, ?_, ?_, by omega, by omega, ?_⟩
      · simp only [Bool.and_self, if_true, hw, Option.bind_some, g1]
      · simp only [Bool.and_self, if_true, g2]
      · have hinv : L (fun k => impl_InversionsOf.f k l o obj) = some (invL (wrongB l obj) o, true) := by
          simp only [impl_InversionsOf.f, L_bind, L_ite, L_const, isRuledAndOrdered_L l o obj h2 ho2, Option.bind_some, hr, hord, Bool.and_self, if_true, inversions_L l obj o hg h8 hi]
        have hown : laws_vOwn.f o = some o := by
          simp only [laws_vOwn.f, Option.bind_some, List.nil_append, List.length_nil, if_pos (show 0 + o.length < 17592186044416 by omega)]
        rw [L_shift]
        simp only [laws_FnSorting.j0, Bool.false_eq_true, if_false, if_true, L_bind, hinv, Option.bind_some, hown, L_const]
        exact hlaw
theorem FnSorting : laws_FnSorting.Pure := by
  intro c h1 h2
  have e1 : maxLen = 9223372036854775807 := rfl
  refine rounds_of_L ?_
  simp only [laws_FnSorting.f, laws_vBig.f, Option.bind_some]
  by_cases hb : (c.length : Int) > 65536
  · rw [L_ite, if_pos (decide_eq_true hb), L_const]
  · rw [L_ite, if_neg (by rw [decide_eq_false hb]; decide)]
    have hc : Byt c := ⟨by omega, fun y hy => wf_u8 (h2 y hy)⟩
    obtain ⟨J, O, t, d1, d2, d3⟩ := draw_sorting c hc
    obtain ⟨R, E, b, g1, g2, g3, g4, g5⟩ := so_j0 J O t d2 d3
    (rw [L_bind, d1, Option.bind_some]; try dsimp only)
    (rw [L_bind, g2, Option.bind_some]; try dsimp only)
    (rw [L_bind, g1, Option.bind_some]; try dsimp only)
    rw [L_ite, if_neg (by simp)]
    (rw [L_bind, (vInts_L R (by omega)), Option.bind_some]; try dsimp only)
    rw [L_ite, if_pos rfl]
    (rw [L_bind, (vInts_L E (by omega)), Option.bind_some]; try dsimp only)
    exact g5

end Go.Proofs.Ytmfmgingdepjbaa.Pure
